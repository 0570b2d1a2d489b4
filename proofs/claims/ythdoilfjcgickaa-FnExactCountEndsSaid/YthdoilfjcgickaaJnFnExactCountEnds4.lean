/- Texts of one claim (the words of the kit's print that the claim uses, printed functions, and this session's own texts), joined in the order of their imports by this session's own program (merge.py). -/
import Derived.Test.YthdoilfjcgickaaJnFnExactCountEnds0
import Derived.Test.YthdoilfjcgickaaJnFnExactCountEnds1
import Derived.Test.YthdoilfjcgickaaJnFnExactCountEnds3
set_option linter.unusedVariables false
set_option linter.unusedSimpArgs false
set_option maxHeartbeats 8000000
set_option maxRecDepth 100000
section
namespace Go.Proofs.Ythdoilfjcgickaa.Hd
open Go.RowKit Go.Proofs.YthdoilfjcgickaaW.PrintWords Go.Proofs.YthdoilfjcgickaaW.PrintLast Go.Proofs.YthdoilfjcgickaaW.PrintMore Go.Proofs.Ythdoilfjcgickaa.Pr Go.Proofs.Ythdoilfjcgickaa.La Go.Proofs.Ythdoilfjcgickaa.Ma Go.Proofs.Ythdoilfjcgickaa.Hm Go.Proofs.Ythdoilfjcgickaa.Dt
structure Pre (w0 w : World) (g n r : Nat) (b cp : Nat → Nat) : Prop where
 below : Below w0.heap.size w0 w
 gb : w0.heap.size ≤ g
 bb : ∀ j, j < r → w0.heap.size ≤ b j
 inj : ∀ i j, i < r → j < r → b i = b j → i = j
 ne : ∀ j, j < r → b j ≠ g
 cap : ∀ j, j < r → n ≤ cp j
 og : ∀ j, j < r → w.cell? ⟨g, j, none⟩ = some (.slice (some ⟨b j, 0, none⟩) n (cp j))
 ob : ∀ j c, j < r → c < n → w.cell? ⟨b j, c, none⟩ = some (.int .i64 0) ∧ w.frozen? ⟨b j, c, none⟩ = false
 rest : ∀ j, j < n → (∃ v, w.cell? ⟨g, j, none⟩ = some v) ∧ w.frozen? ⟨g, j, none⟩ = false
section
variable {w0 w w1 : World} {g n r : Nat} {b cp : Nat → Nat}
theorem Pre.step (h : Pre w0 w g n r b cp) (hr : r ≤ n) (hb : Below w.heap.size w w1) : Pre w0 w1 g n r b cp :=
  ⟨Below.trans h.below (hb.mono h.below.size), h.gb, h.bb, h.inj, h.ne, h.cap,
   fun j hj => by have := lt_of_cell (h.og j hj); exact (hb.cell (p := ⟨g, j, none⟩) this).trans (h.og j hj),
   fun j c hj hc => by have := lt_of_cell (h.ob j c hj hc).1; exact ⟨(hb.cell (p := ⟨b j, c, none⟩) this).trans (h.ob j c hj hc).1, (frozen_below hb this).trans (h.ob j c hj hc).2⟩,
   fun j hj => by obtain ⟨⟨v, hv⟩, hf⟩ := h.rest j hj; have := lt_of_cell hv; exact ⟨⟨v, (hb.cell (p := ⟨g, j, none⟩) this).trans hv⟩, (frozen_below hb this).trans hf⟩⟩
theorem Pre.full (h : Pre w0 w g n n b cp) : Own w0 w g n b cp (fun _ _ => 0) :=
 ⟨h.below, h.gb, h.bb, h.inj, h.ne, h.cap, fun j hj => ⟨h.og j hj, (h.rest j hj).2⟩, h.ob⟩
theorem Pre.add {bn cn : Nat} (h : Pre w0 w g n r b cp) (hr : r < n) (hb : Below w.heap.size w w1) (hR : Kd.R (Kd.int .i64) 2 w1 w.heap.size (fun _ => True) (.slice (some ⟨bn, 0, none⟩) n cn) (List.replicate n 0)) :
  Pre w0 (w1.setCell ⟨g, r, none⟩ (.slice (some ⟨bn, 0, none⟩) n cn)) g n (r + 1) (fun j => if j = r then bn else b j) (fun j => if j = r then cn else cp j) := by
 have h1 := h.step (Nat.le_of_lt hr) hb
 have hbn : w.heap.size ≤ bn := Kd.R_base hR bn (by simp [Value.ownBlock])
 have hcn := (Kd.R_reads' hR).2.1
 have hlt (j : Nat) (hj : j < r) : b j < w.heap.size := lt_of_cell (h.ob j 0 hj (by omega)).1
 have hg : g < w.heap.size := by obtain ⟨⟨v, hv⟩, _⟩ := h.rest r hr; exact lt_of_cell hv
 refine ⟨h1.below.setCell h1.gb _, h1.gb, fun j hj => ?_, fun i j hi hj e => ?_, fun j hj => ?_, fun j hj => ?_, fun j hj => ?_, fun j c hj hc => ?_, fun j hj => ?_⟩
 ·show w0.heap.size ≤ if j = r then bn else b j
  split
  ·have := h.below.size; omega
  ·exact h.bb j (by omega)
 ·by_cases ei : i = r <;> by_cases ej : j = r
  ·omega
  ·simp only [if_pos ei, if_neg ej] at e; have := hlt j (by omega); omega
  ·simp only [if_neg ei, if_pos ej] at e; have := hlt i (by omega); omega
  ·simp only [if_neg ei, if_neg ej] at e; exact h.inj i j (by omega) (by omega) e
 ·show (if j = r then bn else b j) ≠ g
  split
  ·omega
  ·exact h.ne j (by omega)
 ·show n ≤ if j = r then cn else cp j
  split
  ·exact hcn
  ·exact h.cap j (by omega)
 ·by_cases e : j = r
  ·subst e
   simp only [if_true]
   obtain ⟨⟨v, hv⟩, _⟩ := h1.rest j hr
   exact cset_same hv
  ·simp only [if_neg e]
   rw [cset_other (by intro q; exact e (congrArg Addr.off q).symm)]
   exact h1.og j (by omega)
 ·rw [fset]
  by_cases e : j = r
  ·subst e
   simp only [if_true]
   have hat := Kd.R_celln 0 hR (c : Int) (by omega) (by simp; omega)
   rw [Int.toNat_natCast] at hat
   rw [cset_other (by intro q; have := congrArg Addr.block q; simp only at this; omega)]
   exact ⟨by simpa [rdOf, hc] using hat.1, hat.2⟩
  ·simp only [if_neg e]
   rw [cset_other (by intro q; exact h.ne j (by omega) (congrArg Addr.block q).symm)]
   exact h1.ob j c (by omega) hc
 ·rw [fset]
  refine ⟨?_, (h1.rest j hj).2⟩
  by_cases e : j = r
  ·subst e
   obtain ⟨⟨v, hv⟩, _⟩ := h1.rest j hr
   exact ⟨_, cset_same hv⟩
  ·rw [cset_other (by intro q; exact e (congrArg Addr.off q).symm)]
   exact (h1.rest j hj).1
theorem pre_of_S {ok : Nat → Prop} {v : Value} (h : SS w0 w ok v (List.replicate n [])) (hB : Below w0.heap.size w0 w) (hp : 0 < n) : ∃ g cap, v = .slice (some ⟨g, 0, none⟩) n cap ∧ n ≤ cap ∧ Pre w0 w g n 0 (fun _ => 0) (fun _ => 0) := by
 obtain ⟨g, cap, rfl, hg0, hg1, cells, hgc⟩ := Kd.S_form h (by simpa using hp)
 have hrd := Kd.S_reads' h
 rw [List.length_replicate] at hrd ⊢
 refine ⟨g, cap, rfl, hrd.2.1, ⟨hB, hg0, fun j hj => by omega, fun i j hi => by omega, fun j hj => by omega, fun j hj => by omega, fun j hj => by omega, fun j c hj => by omega, fun j hj => ⟨?_, blk_frozen hgc j⟩⟩⟩
 obtain ⟨ad, A', c', e, hx, _⟩ := at_L1 hrd.2.2 (j : Int) (by omega) (by simp; omega)
 cases e
 rw [Int.toNat_natCast, add_off, Nat.zero_add] at hx
 exact ⟨_, hx⟩
theorem R_keptC {ok : Nat → Prop} {A : Option Addr} {c base : Nat} {xs : List Int} {W : World} {m : Nat} (hR : Kd.R (Kd.int .i64) 2 w base ok (.slice A m c) xs) (hK : Kept w W (okB n b)) (hlt : ∀ j, j < n → b j < base) : Kd.C (Kd.int .i64) W A xs.length xs := by
 have h2 := Kd.R_step (w1 := W) (Kd.R_bound hR) (fun k hk hlt2 => hK.2 k hlt2 (fun ⟨j, hj, e⟩ => by have := hlt j hj; have := hk.2.1; omega))
 exact (Kd.R_reads' h2).2.2
end
def cM (cl : Nat → List Int) (i : Nat) : Mat := fun a d => if d < i then (cl d).getD a 0 else 0
theorem cM_next (cl : Nat → List Int) (i n a d : Nat) (ha : a < n) : pcol (cM cl i) i (cl i) n a d = cM cl (i + 1) a d := by
 unfold pcol cM
 by_cases e : d = i
 ·subst e; rw [if_pos ⟨rfl, ha⟩, if_pos (by omega)]
 ·rw [if_neg (by omega)]
  by_cases q : d < i
  ·rw [if_pos q, if_pos (by omega)]
  ·rw [if_neg q, if_neg (by omega)]
theorem columns_calls (k n : Nat) (s : Int) (cl : Nat → List Int) (A0 : Option Addr) (c0 : Nat) (M : List (List Int)) (A1 : Option Addr) (c1 : Nat) (Q : List Int) (w : World) (hr0 : Kd.C (Kd.slice 2 (Kd.int .i64)) w A0 M.length M) (hc0 : M.length ≤ c0) (hr1 : Kd.C (Kd.int .i64) w A1 Q.length Q) (hc1 : Q.length ≤ c1) (hQ : Q.length = n) (hp : 0 < n) (hn : n ≤ 1000)
  (hcl : ∀ i, i < n → ∃ t, impl_has.f s (i : Int) = some t ∧ impl_Problem_column.f k M Q (i : Int) t = some (cl i) ∧ (cl i).length = n) :
  Calls Try.prog 142 #[.agg #[.slice A0 M.length c0, .slice A1 Q.length c1], .int .i64 s] w fun e w' => ∃ (g cap : Nat) (b cp : Nat → Nat), e = .returned (.slice (some ⟨g, 0, none⟩) n cap) ∧ n ≤ cap ∧ Own w w' g n b cp (cM cl n) := by
 have HR0 := Aside0.mk hr0
 have HC0 := Aside0.mk hc0
 have HR1 := Aside0.mk hr1
 have HC1 := Aside0.mk hc1
 have HQ := Aside0.mk hQ
 have HP := Aside0.mk hp
 have HN := Aside0.mk hn
 have HCL := Aside0.mk hcl
 have HB := Aside0.mk (Below.refl w.heap.size w)
 clear hr0 hc0 hr1 hc1 hp hn hcl
 rw [hQ]
 clear hQ
 have hn0 : (0 : Int) ≤ (n : Int) := by omega
 go_enter Try.func142, Try.ntmps142
 go_wp2_with (first | ((with_reducible refine gate_dst (N := 2) rfl ?_); refine box_event ?hg (N := 2) ?hd (cs := #[.slice A0 M.length c0, .slice A1 n c1]) (t := 29) ?hr ?_; (case hd => rfl); (case hg => rfl); (case hr => first | (go_simp; done) | (go_simp; rfl)); intro gb hg w6 hbox hb; have n0_ := Aside0.mk (below_step HB.out hb); have n1_ := Aside0.mk hbox; clear HB; have HB := n0_; have BK := n1_; clear n0_ n1_; clear hb hbox hg; have hcz0 : w6.cell? ⟨gb, 0, none⟩ = some (.slice A0 M.length c0) := (blk_cell BK.out 0).trans rfl; have hcz1 : w6.cell? ⟨gb, 1, none⟩ = some (.slice A1 n c1) := (blk_cell BK.out 1).trans rfl) | ((with_reducible refine gate_dst (N := 13) rfl ?_); refine Kd.S_make (Kd.slice 2 (Kd.int .i64)) w.heap.size 23 rfl (N := 13) rfl 22 _ _ rfl (n : Int) rfl rfl Try.underlying22 (.slice none 0 0) 24 info23 rfl (by decide) (by omega) [] (ok := fun _ => True) (okp := fun _ => True) ⟨_, rfl, Kd.R_nil _ _ _ _ _⟩ (fun _ hk => hk) trivial hn0 (by have := HN.out; omega) HB.out HB.out.size ?_; intro v13 w7 ho hb hg hat; have n0_ := Aside0.mk ho; have n1_ := Aside0.mk (blk_grown BK.out hg (by simp)); have BK6 := BK; clear HB BK hcz0 hcz1; have HS := n0_; have BK := n1_; have HB := Aside0.mk hb; have HGN : Aside0 (∀ k, v13.ownBlock = some k → gb < k) := ⟨fun k hk => by obtain ⟨b_, hb_, hl_⟩ := hat; rw [hb_] at hk; injection hk with hk; have := blk_lt BK6.out; omega⟩; clear BK6 n0_ n1_ ho hb hg hat))
 obtain ⟨g, cap, rfl, hcap, hpre⟩ := pre_of_S (by simpa using HS.out) HB.out HP.out
 have HPRE := Aside0.mk hpre
 have HCAP := Aside0.mk hcap
 have HGB : Aside0 (gb < g) := ⟨by have := HGN.out g (by simp [Value.ownBlock]); omega⟩
 clear HS hcap hpre HGN
 go_wp2
 go_loopg [16] n (fun gg v16 wr => ∃ (r : Nat) (b cp : Nat → Nat), r ≤ n ∧ n - r ≤ gg ∧ v16 = .int .i64 (r : Int) ∧ Aside0 (Pre w wr g n r b cp) ∧ Aside0 (∀ j, j < r → gb < b j) ∧ Aside0 (wr.heap[gb]? = some (.cells #[.slice A0 M.length c0, .slice A1 n c1] 29 (0, 0))))
 case atStart => exact ⟨0, _, _, Nat.zero_le _, by omega, rfl, HPRE, ⟨fun j hj => by omega⟩, BK⟩
 case round =>
  clear HPRE BK HB
  obtain ⟨r, b, cp, hr, hg, rfl, HPRE, HGJ, BK⟩ := hrel
  have HR := Aside0.mk hr
  have HG := Aside0.mk hg
  by_cases hlt : r < n
  ·have hltz : (r : Int) < (n : Int) := by omega
   have h0z : (0 : Int) ≤ (r : Int) := by omega
   have HLT := Aside0.mk hlt
   have hr1 : IntKind.i64.wrap ((r : Int) + 1) = ((r + 1 : Nat) : Int) := by rw [IntWalk.i64_in _ (by have := HN.out; omega)]; rfl
   have HR1 := Aside0.mk hr1
   clear hlt hr hg
   go_wp2_with (first | ((with_reducible refine gate_dst (N := 22) rfl ?_); refine Kd.R_make (w0 := wr) (Kd.int .i64) wr.heap.size 2 rfl (N := 22) rfl 23 _ _ rfl (n : Int) rfl rfl Try.underlying23 (.int .i64 0) 8 info2 rfl (by decide) (by decide) 0 (ok := fun _ => True) (okp := fun _ => True) rfl (fun _ hk => hk) trivial hn0 (by have := HN.out; omega) (Below.refl _ _) (Nat.le_refl _) ?_; intro v22 w8 ho hb hg2 hat; obtain ⟨bn, cn, rfl, hbn1, hbn2, cells, hbc⟩ := Kd.R_form ho (by have := HP.out; simp; omega); simp only [Int.toNat_natCast, List.length_replicate] at ho ⊢; have HADD := Aside0.mk (HPRE.out.add HLT.out hb ho); have hcg := (((HPRE.out.step (Nat.le_of_lt HLT.out) hb).rest r HLT.out).1); have hfr := (((HPRE.out.step (Nat.le_of_lt HLT.out) hb).rest r HLT.out).2); obtain ⟨vg, hcg⟩ := hcg; have HBN : Aside0 (wr.heap.size ≤ bn) := ⟨hbn1⟩; have n1_ := Aside0.mk (blk_below BK.out hb); have HGBW := Aside0.mk (blk_lt BK.out); clear BK HPRE; have BK := n1_; clear n1_ ho hb hg2 hat hbn1 hbn2 hbc))
   go_roundg (n - (r + 1))
   case measure => have := HG.out; have := HLT.out; omega
   case rel =>
    refine ⟨r + 1, _, _, by have := HLT.out; omega, by omega, by first | rfl | (rw [HR1.out]) | (simp [HR1.out]), HADD, ⟨fun j hj => ?_⟩, ⟨?_⟩⟩
    ·show gb < if j = r then bn else b j
     split
     ·have := HBN.out; have := HGBW.out; omega
     ·exact HGJ.out j (by omega)
    ·exact (Below.heap_setCell _ _ _ gb (by have := HGB.out; simp; omega)).trans BK.out
  ·have hltz : ¬ (r : Int) < (n : Int) := by omega
   obtain rfl : r = n := by omega
   have HO := Aside0.mk (HPRE.out.full)
   have HO := Aside0.mk (HO.out.congr (M' := cM cl 0) (fun a d _ _ => by simp [cM]))
   clear HPRE hr hg
   go_wp2
   go_loopg [26] r (fun gg v26 w4 => ∃ i : Nat, i ≤ r ∧ r - i ≤ gg ∧ v26 = .int .i64 (i : Int) ∧ Aside0 (Own w w4 g r b cp (cM cl i)) ∧ Aside0 (w4.heap[gb]? = some (.cells #[.slice A0 M.length c0, .slice A1 r c1] 29 (0, 0))))
   case atStart => exact ⟨0, Nat.zero_le _, by omega, rfl, HO, BK⟩
   case round =>
    clear HO BK
    obtain ⟨i, hi, hg2, rfl, HO, BK⟩ := hrel
    have HG2 := Aside0.mk hg2
    by_cases hin : i < r
    ·have hiz : (i : Int) < (r : Int) := by omega
     have h0i : (0 : Int) ≤ (i : Int) := by omega
     have HIN := Aside0.mk hin
     have hi1 : IntKind.i64.wrap ((i : Int) + 1) = ((i + 1 : Nat) : Int) := by rw [IntWalk.i64_in _ (by have := HN.out; omega)]; rfl
     have HI1 := Aside0.mk hi1
     obtain ⟨th, hth, hcol, hclen⟩ := HCL.out i hin
     have HTH := Aside0.mk hth
     have HCOLF := Aside0.mk hcol
     have HCLEN := Aside0.mk hclen
     have n0_ := Aside0.mk (HO.out.step (below_drew (Below.refl wr.heap.size wr)))
     have n1_ := Aside0.mk (blk_drew BK.out)
     clear HO BK
     have HO := n0_
     have BK := n1_
     clear n0_ n1_ hi hg2 hin hth hcol hclen
     have hcz0 : wr.drew.cell? ⟨gb, 0, none⟩ = some (.slice A0 M.length c0) := (blk_cell BK.out 0).trans rfl
     have hcz1 : wr.drew.cell? ⟨gb, 1, none⟩ = some (.slice A1 r c1) := (blk_cell BK.out 1).trans rfl
     go_wp2
     refine start_ (n := 9) (S := fun w' => w'.cell? ⟨gb, 0, none⟩ = some (.slice A0 M.length c0) ∧ w'.cell? ⟨gb, 1, none⟩ = some (.slice A1 r c1)) (ds := []) #[false, false, false, false, false, false, false, false, false] (by kernel_rfl) rfl rfl ⟨hcz0, hcz1⟩ (fun hHeld => ?_)
     generalize wr.drew = w9 at HO BK hcz0 hcz1 hHeld ⊢
     refine pure_ (i := 0) (N := some 29) (v := ?_) (a' := ?_) #[true, false, false, false, false, false, false, false, false] rfl rfl (by kernel_rfl) (fun _ _ _ h => h) (Or.inl ⟨by rfl, ?_⟩) ?_ ?_
     rotate_left
     ·intro w'
      go_simp
      with_reducible rfl
     rotate_left
     ·simp only [Act.put, List.setIfInBounds_toArray, List.set_cons_zero, List.set_cons_succ, i64_w, i32_w]
      rfl
     refine pure_ (i := 1) (N := some 30) (v := ?_) (a' := ?_) #[true, true, false, false, false, false, false, false, false] rfl rfl (by kernel_rfl) (fun _ _ _ h => h) (Or.inl ⟨by rfl, ?_⟩) ?_ ?_
     rotate_left
     ·intro w'
      go_simp
      with_reducible rfl
     rotate_left
     ·simp only [Act.put, List.setIfInBounds_toArray, List.set_cons_zero, List.set_cons_succ, i64_w, i32_w]
      rfl
     refine take_ (i := 2) (N := some 31) (v := ?_) (a' := ?_) #[true, true, true, false, false, false, false, false, false] rfl rfl (by kernel_rfl) (fun _ _ _ h => h) (Or.inl ⟨by rfl, ?_⟩) hHeld ?_ ?_
     rotate_left
     ·rintro w' ⟨s0, s1⟩
      go_simp
      with_reducible rfl
     rotate_left
     ·simp only [Act.put, List.setIfInBounds_toArray, List.set_cons_zero, List.set_cons_succ, i64_w, i32_w]
      rfl
     refine pure_ (i := 3) (N := some 32) (v := ?_) (a' := ?_) #[true, true, true, true, false, false, false, false, false] rfl rfl (by kernel_rfl) (fun _ _ _ h => h) (Or.inl ⟨by rfl, ?_⟩) ?_ ?_
     rotate_left
     ·intro w'
      go_simp
      with_reducible rfl
     rotate_left
     ·simp only [Act.put, List.setIfInBounds_toArray, List.set_cons_zero, List.set_cons_succ, i64_w, i32_w]
      rfl
     refine pure_ (i := 4) (N := some 33) (v := ?_) (a' := ?_) #[true, true, true, true, true, false, false, false, false] rfl rfl (by kernel_rfl) (fun _ _ _ h => h) (Or.inl ⟨by rfl, ?_⟩) ?_ ?_
     rotate_left
     ·intro w'
      go_simp
      with_reducible rfl
     rotate_left
     ·simp only [Act.put, List.setIfInBounds_toArray, List.set_cons_zero, List.set_cons_succ, i64_w, i32_w]
      rfl
     refine pure_ (i := 5) (N := some 34) (v := ?_) (a' := ?_) #[true, true, true, true, true, true, false, false, false] rfl rfl (by kernel_rfl) (fun _ _ _ h => h) (Or.inl ⟨by rfl, ?_⟩) ?_ ?_
     rotate_left
     ·intro w'
      go_simp
      with_reducible rfl
     rotate_left
     ·simp only [Act.put, List.setIfInBounds_toArray, List.set_cons_zero, List.set_cons_succ, i64_w, i32_w]
      rfl
     refine one_ (i := 6) (N := some 35) #[true, true, true, true, true, true, true, false, false] rfl rfl (by kernel_rfl) (by decide) (fun K hK => ?_)
     refine goes_ Try.func109 (by kernel_rfl) rfl #[.int .i64 s, .int .i64 (i : Int)] (by rfl) rfl rfl (by (try simp only [List.map_toArray, List.map_cons, List.map_nil]); first | done | rfl) ?_
     refine (impl_has.calls s (i : Int) th _ HTH.out).mono ?_
     rintro e w5 ⟨rfl, hd5⟩
     refine ⟨_, rfl, ?_⟩
     have n0_ := Aside0.mk (HO.out.step hd5.below)
     have n1_ := Aside0.mk (blk_below BK.out hd5.below)
     clear HO BK hd5 hHeld hcz0 hcz1
     have HO := n0_
     have BK := n1_
     clear n0_ n1_
     refine hK.out _ _ ⟨(blk_cell BK.out 0).trans rfl, (blk_cell BK.out 1).trans rfl⟩ (fun hHeld => ?_)
     clear hK K
     refine norm_ (a' := ?_) ?_ ?_
     rotate_left
     ·show Act.put _ (some 35) _ = _
      simp only [Act.put, List.setIfInBounds_toArray, List.set_cons_zero, List.set_cons_succ, i64_w, i32_w]
      rfl
     refine one_ (i := 7) (N := some 36) #[true, true, true, true, true, true, true, true, false] rfl rfl (by kernel_rfl) (by decide) (fun K hK => ?_)
     refine goes_ Try.func135 (by kernel_rfl) rfl #[.agg #[.slice A0 M.length c0, .slice A1 r c1], .int .i64 (i : Int), .bool th] (by rfl) rfl rfl (by (try simp only [List.map_toArray, List.map_cons, List.map_nil]); first | done | rfl) ?_
     have hcc := impl_Problem_column.calls k A0 c0 M A1 c1 Q (i : Int) th (cl i) w5 (Kd.C_below HR0.out HO.out.below) HC0.out (Kd.C_below HR1.out HO.out.below) HC1.out HCOLF.out
     rw [HQ.out] at hcc
     refine hcc.mono ?_
     clear hcc
     rintro e w6' ⟨vc, rfl, hRc, hb6⟩
     obtain ⟨Ac, cc, rfl⟩ := Kd.R_slice hRc
     refine ⟨_, rfl, ?_⟩
     have HRC := Aside0.mk hRc
     have HBL : Aside0 (∀ j, j < r → b j < w5.heap.size) := ⟨fun j hj => lt_of_cell (HO.out.ob j i hj HIN.out).1⟩
     have n0_ := Aside0.mk (HO.out.step hb6)
     have n1_ := Aside0.mk (blk_below BK.out hb6)
     clear HO BK hb6 hHeld hRc
     have HO := n0_
     have BK := n1_
     clear n0_ n1_
     refine hK.out _ _ ⟨(blk_cell BK.out 0).trans rfl, (blk_cell BK.out 1).trans rfl⟩ (fun hHeld => ?_)
     clear hK K
     refine norm_ (a' := ?_) ?_ ?_
     rotate_left
     ·show Act.put _ (some 36) _ = _
      simp only [Act.put, List.setIfInBounds_toArray, List.set_cons_zero, List.set_cons_succ, i64_w, i32_w]
      rfl
     refine one_ (i := 8) (N := some 37) #[true, true, true, true, true, true, true, true, true] rfl rfl (by kernel_rfl) (by decide) (fun K hK => ?_)
     refine goes_ Try.func144 (by kernel_rfl) rfl #[.slice (some ⟨g, 0, none⟩) r cap, .int .i64 (i : Int), .slice Ac (cl i).length cc] (by rfl) rfl rfl (by (try simp only [List.map_toArray, List.map_cons, List.map_nil]); first | done | rfl) ?_
     refine (putO (w0 := w) i HIN.out cap Ac cc (cl i) HO.out HN.out (by rw [HCLEN.out]; exact Nat.le_refl _) (fun W hK hB => R_keptC HRC.out hK HBL.out)).mono ?_
     rintro e w7' ⟨rfl, hO7, hK7⟩
     refine ⟨_, rfl, ?_⟩
     have n0_ := Aside0.mk (hO7.congr (M' := cM cl (i + 1)) (fun a d ha _ => cM_next cl i r a d ha))
     have n1_ := Aside0.mk (blk_kept BK.out hK7 (fun ⟨j, hj, e⟩ => by have := HGJ.out j hj; omega))
     clear HO BK hK7 hO7 hHeld
     have HO := n0_
     have BK := n1_
     clear n0_ n1_
     refine hK.out _ _ ⟨(blk_cell BK.out 0).trans rfl, (blk_cell BK.out 1).trans rfl⟩ (fun hHeld => ?_)
     clear hK K
     refine norm_ (a' := ?_) ?_ ?_
     rotate_left
     ·show Act.put _ (some 37) _ = _
      simp only [Act.put, List.setIfInBounds_toArray, List.set_cons_zero, List.set_cons_succ, i64_w, i32_w]
      rfl
     refine done_ (by kernel_rfl) ?_
     go_wp2
     go_roundg (r - (i + 1))
     case measure => have := HG2.out; have := HIN.out; omega
     case rel => exact ⟨i + 1, by have := HIN.out; omega, by omega, by first | rfl | (rw [HI1.out]) | (simp [HI1.out]), HO, BK⟩
    ·have hiz : ¬ (i : Int) < (r : Int) := by omega
     obtain rfl : i = r := by omega
     go_wp2
     go_ret
     exact ⟨g, cap, rfl, HCAP.out, b, cp, HO.out⟩
end Go.Proofs.Ythdoilfjcgickaa.Hd
end
section
namespace Go.Proofs.Ythdoilfjcgickaa.Bd
open Go.RowKit Go.Proofs.YthdoilfjcgickaaW.PrintWords Go.Proofs.YthdoilfjcgickaaW.PrintMore Go.Proofs.Ythdoilfjcgickaa.Ma Go.Proofs.Ythdoilfjcgickaa.Dt
def ev (M : Mat) (i : Nat) (last : Int) (r c : Nat) : Int := wrap64 (Int.tdiv (wrap64 (wrap64 (M r c * M i i) - wrap64 (M r i * M i c))) last)
def mid (M : Mat) (i : Nat) (last : Int) (r c : Nat) : Mat := fun a b => if i ≤ b ∧ i < a ∧ (a < r ∨ a = r ∧ b < c) then ev M i last a b else M a b
def el (M : Mat) (i : Nat) (last : Int) : Mat := fun a b => if i ≤ b ∧ i < a then ev M i last a b else M a b
def fnd (M : Mat) (i : Nat) : Nat → Nat → Option Nat
 | 0, _ => none
 | q + 1, k => if M (i + k) i ≠ 0 then some k else fnd M i q (k + 1)
def swp (M : Mat) (r q : Nat) : Mat := fun j => M (if j = r then q else if j = q then r else j)
def dgo (n : Nat) : Nat → Nat → Mat → Int → Int → Int
 | 0, _, _, last, turn => wrap64 (turn * last)
 | q + 1, i, M, last, turn => match fnd M i (n - i) 0 with
  | none => 0
  | some 0 => dgo n q (i + 1) (el M i last) (M i i) turn
  | some (k + 1) => dgo n q (i + 1) (el (swp M i (i + (k + 1))) i last) (swp M i (i + (k + 1)) i i) (wrap64 (-turn))
theorem fnd_some {M : Mat} {i : Nat} : ∀ {q k j : Nat}, fnd M i q k = some j → k ≤ j ∧ j < k + q ∧ M (i + j) i ≠ 0 ∧ ∀ t, k ≤ t → t < j → M (i + t) i = 0
 | 0, _, _, h => by cases h
 | q + 1, k, j, h => by
  unfold fnd at h
  by_cases c : M (i + k) i ≠ 0
  ·rw [if_pos c] at h
   cases h
   exact ⟨Nat.le_refl _, by omega, c, fun t h1 h2 => by omega⟩
  ·rw [if_neg c] at h
   obtain ⟨h1, h2, h3, h4⟩ := fnd_some h
   refine ⟨by omega, by omega, h3, fun t h5 h6 => ?_⟩
   by_cases e : t = k
   ·subst e; exact Decidable.not_not.1 c
   ·exact h4 t (by omega) h6
theorem fnd_none {M : Mat} {i : Nat} : ∀ {q k : Nat}, fnd M i q k = none → ∀ t, k ≤ t → t < k + q → M (i + t) i = 0
 | 0, _, _, t, h1, h2 => by omega
 | q + 1, k, h, t, h1, h2 => by
  unfold fnd at h
  by_cases c : M (i + k) i ≠ 0
  ·rw [if_pos c] at h; cases h
  ·rw [if_neg c] at h
   by_cases e : t = k
   ·subst e; exact Decidable.not_not.1 c
   ·exact fnd_none h t (by omega) (by omega)
theorem mid_start (M : Mat) (i : Nat) (last : Int) (a b : Nat) : mid M i last (i + 1) i a b = M a b := by unfold mid; rw [if_neg (by omega)]
theorem mid_row (M : Mat) (i : Nat) (last : Int) {n : Nat} (r a b : Nat) (hb : b < n) : mid M i last r n a b = mid M i last (r + 1) i a b := by
 unfold mid
 by_cases c : i ≤ b ∧ i < a ∧ (a < r ∨ a = r ∧ b < n)
 ·rw [if_pos c, if_pos (by omega)]
 ·rw [if_neg c, if_neg (by omega)]
theorem mid_end (M : Mat) (i : Nat) (last : Int) {n : Nat} (a b : Nat) (ha : a < n) : mid M i last n i a b = el M i last a b := by
 unfold mid el
 by_cases c : i ≤ b ∧ i < a
 ·rw [if_pos c, if_pos (by omega)]
 ·rw [if_neg c, if_neg (by omega)]
theorem mid_next (M : Mat) (i : Nat) (last : Int) (r c : Nat) (hr : i < r) (hc : i ≤ c) (a b : Nat) : (if a = r ∧ b = c then ev M i last r c else mid M i last r c a b) = mid M i last r (c + 1) a b := by
 unfold mid
 by_cases e : a = r ∧ b = c
 ·obtain ⟨rfl, rfl⟩ := e
  rw [if_pos ⟨rfl, rfl⟩, if_pos (by omega)]
 ·rw [if_neg e]
  by_cases q : i ≤ b ∧ i < a ∧ (a < r ∨ a = r ∧ b < c)
  ·rw [if_pos q, if_pos (by omega)]
  ·rw [if_neg q, if_neg (by omega)]
theorem mid_head (M : Mat) (i : Nat) (last : Int) (r c b : Nat) : mid M i last r c i b = M i b := by unfold mid; rw [if_neg (by omega)]
theorem mid_at (M : Mat) (i : Nat) (last : Int) (r c b : Nat) (h : c ≤ b) : mid M i last r c r b = M r b := by unfold mid; rw [if_neg (by omega)]
end Go.Proofs.Ythdoilfjcgickaa.Bd
end
section
namespace Go.Proofs.Ythdoilfjcgickaa.Cp
open Go.RowKit Go.Proofs.YthdoilfjcgickaaW.PrintWords Go.Proofs.YthdoilfjcgickaaW.PrintMore Go.Proofs.Ythdoilfjcgickaa.Ma Go.Proofs.Ythdoilfjcgickaa.Pr
theorem copy_eq (l : List (List Int)) (hl : l.length ≤ 1000) (hr : ∀ x ∈ l, x.length ≤ 1099511627776) : Ev (fun k => impl_copyRows.f k l) l := by
 have key : ∀ q i, i + q = l.length → Ev (fun k => impl_copyRows.l0 k (l.take i) l (l.length : Int) i) l := by
  intro q
  induction q with
  | zero =>
   intro i hi
   rw [List.take_of_length_le (by omega)]
   exact evstep (fun k => by rw [impl_copyRows.l0]) (evneg (by omega) (evc rfl))
  | succ q ih =>
   intro i hi
   have hlt : i < l.length := by omega
   have e : rd_L1 l (i : Int) = l[i] := by simp [rd_L1, hlt]
   have hri := hr l[i] (List.getElem_mem hlt)
   have h := ih (i + 1) (by omega)
   rw [List.take_succ_eq_append_getElem hlt] at h
   refine evstep (fun k => by rw [impl_copyRows.l0]) (evpos (by omega) (evpos (by omega) (evpos (by omega) ?_)))
   rw [e]
   refine evsome (a := l[i]) (by unfold slices_Clone.f; rw [if_pos hri]) (evpos (by rw [List.length_take]; omega) ?_)
   rw [w64 (x := (i : Int) + 1) (by omega) (by omega)]
   exact h
 exact key l.length 0 (by omega)
end Go.Proofs.Ythdoilfjcgickaa.Cp
end
section
namespace Go.Proofs.Ythdoilfjcgickaa.Pr
open Go.RowKit Go.Proofs.YthdoilfjcgickaaW.PrintWords Go.Proofs.YthdoilfjcgickaaW.PrintLast Go.Proofs.YthdoilfjcgickaaW.PrintMore Go.Proofs.Ythdoilfjcgickaa.La Go.Proofs.Ythdoilfjcgickaa.Ma Go.Proofs.Ythdoilfjcgickaa.Hm Go.Proofs.Ythdoilfjcgickaa.Dt Go.Proofs.Ythdoilfjcgickaa.Hd Go.Proofs.Ythdoilfjcgickaa.Bd Go.Proofs.Ythdoilfjcgickaa.Cp
def nz (i : Nat) (row : List Int) : Bool := row.getD i 0 != 0
theorem det1 (gb i : Nat) (A : Option Addr) (c : Nat) (x : List Int) (w : World) (hb : w.cell? ⟨gb, 0, none⟩ = some (.int .i64 (i : Int))) (hC : Kd.C (Kd.int .i64) w A x.length x) (hi : i < x.length) :
  Calls Try.prog 159 (#[.slice A x.length c] ++ #[.pointer (some ⟨gb, 0, none⟩)]) w fun e w' => e = .returned (.bool (nz i x)) ∧ Below w.heap.size w w' := by
 unfold nz
 show Calls Try.prog 159 #[.slice A x.length c, .pointer (some ⟨gb, 0, none⟩)] w _
 obtain ⟨ad, rfl, hcell⟩ := Kd.at_int hC (i : Int) (by omega) (by omega)
 rw [Int.toNat_natCast, rd_nat] at hcell
 have hiz : (i : Int) < (x.length : Int) := by omega
 have h0z : (0 : Int) ≤ (i : Int) := by omega
 generalize x.getD i 0 = y at hcell ⊢
 generalize x.length = n at hiz hC ⊢
 clear hC hi
 by_cases e : y = 0
 ·have h1 : (y != 0) = false := by simp [e]
  have h2 : (y == 0) = true := by simp [e]
  clear e
  go_enter Try.func159, Try.ntmps159
  go_wp2
  go_ret
  exact ⟨by rw [h1]; rfl, Below.refl _ _⟩
 ·have h1 : (y != 0) = true := by simp [e]
  have h2 : (y == 0) = false := by simp [e]
  clear e
  go_enter Try.func159, Try.ntmps159
  go_wp2
  go_ret
  exact ⟨by rw [h1]; rfl, Below.refl _ _⟩
theorem det1_enters : ∀ args w, (callFunc 159 args).run Try.prog w = .ok (.enter 159 args) w := enters_fn Try.func159 (by kernel_rfl) rfl
theorem idxP_fnd (M : Mat) (n i : Nat) (hi : i < n) : idxP (nz i) (rowsFrom M n i) 0 = match fnd M i (n - i) 0 with | none => -1 | some k => (k : Int) := by
 have hat : ∀ r (h : r < (rowsFrom M n i).length), nz i (rowsFrom M n i)[r] = (M (i + r) i != 0) := by
  intro r h
  simp [rowsFrom, nz, hi]
 have hl := rowsFrom_len M n i
 cases h : fnd M i (n - i) 0 with
 | none => exact idxP_miss _ _ (fun r hr => by rw [hat r hr, fnd_none h r (Nat.zero_le _) (by omega)]; rfl)
 | some k =>
  obtain ⟨_, h2, h3, h4⟩ := fnd_some h
  exact idxP_hit _ _ k (by omega) (fun r hr hrk => by rw [hat r hr, h4 r (Nat.zero_le _) hrk]; rfl) (by rw [hat k (by omega)]; simpa using h3)
theorem det_calls (n : Nat) (R : Int) (A : Option Addr) (c : Nat) (l : List (List Int)) (w : World) (hr : Kd.C (Kd.slice 2 (Kd.int .i64)) w A l.length l) (hc : l.length ≤ c) (hln : l.length = n) (hp : 0 < n) (hn : n ≤ 1000) (hsq : ∀ x ∈ l, x.length = l.length) (hR : dgo n n 0 (en l) 1 1 = R) :
  Calls Try.prog 143 #[.slice A n c] w fun e w' => e = .returned (.int .i64 R) ∧ Below w.heap.size w w' := by
 obtain ⟨k, hk⟩ := evk (copy_eq l (by omega) (fun x hx => by rw [hsq x hx]; omega))
 have hcopy := fun W (hW : Below w.heap.size w W) => impl_copyRows.calls k A c l l W (Kd.C_below hr hW) hc hk
 rw [hln] at hcopy
 have HCOPY := Aside0.mk hcopy
 have HLN := Aside0.mk hln
 have HP := Aside0.mk hp
 have HN := Aside0.mk hn
 have HSQ := Aside0.mk hsq
 have HR := Aside0.mk hR
 clear hcopy hk hr hc hln hp hn hsq hR
 go_enter Try.func143, Try.ntmps143
 go_wp2_with fail
 refine (HCOPY.out _ (Below.refl _ _)).mono ?_
 rintro e w1 ⟨v0, rfl, hS, hB⟩
 obtain ⟨g, cap, b, cp, rfl, hcap, hO⟩ := own_of_S (w0 := w) hS hB (by rw [HLN.out]; exact HP.out) HSQ.out
 rw [HLN.out] at hcap hO
 rw [HLN.out]
 have HO := Aside0.mk hO
 have HCAP := Aside0.mk hcap
 clear HCOPY hS hB hO hcap HSQ
 go_wp2
 go_loopg [4, 5, 16] n (fun gg v4 v5 v16 wr => ∃ (i : Nat) (M : Mat) (b cp : Nat → Nat) (last turn : Int), i ≤ n ∧ n - i ≤ gg ∧ v4 = .int .i64 last ∧ v5 = .int .i64 turn ∧ v16 = .int .i64 (i : Int) ∧ Aside0 (Own w wr g n b cp M) ∧ Aside0 (last ≠ 0) ∧ Aside0 (dgo n (n - i) i M last turn = R))
 case atStart => exact ⟨0, en l, b, cp, 1, 1, Nat.zero_le _, by omega, rfl, rfl, rfl, HO, ⟨by decide⟩, HR⟩
 case round =>
  clear HO HR b cp
  obtain ⟨i, M, b, cp, last, turn, hi, hg, rfl, rfl, rfl, HO, HL, HR⟩ := hrel
  by_cases hlt : i < n
  ·have hltz : (i : Int) < (n : Int) := by omega
   have HLT := Aside0.mk hlt
   have HI := Aside0.mk hi
   have HG := Aside0.mk hg
   clear hlt hi hg
   have hne : ¬ cap = i := by have := HCAP.out; have := HLT.out; omega
   have hle : (i : Int) ≤ (n : Int) := by omega
   have h0i : (0 : Int) ≤ (i : Int) := by omega
   have HA : Below wr.heap.size wr (wr.alloc (Obj.cells #[.int .i64 (i : Int)] 3)) := (Below.refl _ _).alloc (Nat.le_refl _) _
   have HO1 := Aside0.mk (HO.out.step HA)
   have HPC : Aside0 ((wr.alloc (Obj.cells #[.int .i64 (i : Int)] 3)).cell? ⟨wr.heap.size, 0, none⟩ = some (.int .i64 (i : Int))) := ⟨by simp⟩
   have hcall := indexFuncRows (nz i) 159 #[.pointer (some ⟨wr.heap.size, 0, none⟩)] det1_enters (some ⟨g, i, none⟩) (cap - i) (rowsFrom M n i) _ (HO1.out.C i (by have := HN.out; omega))
    (fun W' A' c' x hx hb hxc hC => det1 wr.heap.size i A' c' x W' ((hb.cell (p := ⟨wr.heap.size, 0, none⟩) (by simp)).trans HPC.out) hC (by
     have := HLT.out
     obtain ⟨r, _, rfl⟩ := List.mem_map.1 hx
     simpa using this))
   rw [rowsFrom_len, idxP_fnd M n i HLT.out] at hcall
   have HCALL := Aside0.mk hcall
   clear hcall
   have HNB : Aside0 (∀ j, j < n → b j ≠ wr.heap.size) := ⟨fun j hj e => by have := lt_of_cell (HO.out.ob j i hj HLT.out).1; rw [e] at this; exact Nat.lt_irrefl _ this⟩
   have HNG : Aside0 (g ≠ wr.heap.size) := ⟨fun e => by have := lt_of_cell (HO.out.og i HLT.out).1; rw [e] at this; exact Nat.lt_irrefl _ this⟩
   obtain ⟨q, hq⟩ : ∃ q, n - i = q + 1 := ⟨n - i - 1, by have := HLT.out; omega⟩
   have HQ := Aside0.mk hq
   have hR2 := HR.out
   rw [hq] at hR2
   unfold dgo at hR2
   clear hq HA
   cases hf : fnd M i (n - i) 0 with
   | none =>
    rw [hf] at hR2
    simp only [hf] at HCALL
    have HR2 := Aside0.mk hR2
    clear hR2 hf
    go_wp2_with fail
    refine HCALL.out.mono ?_
    rintro e w2 ⟨rfl, hb2⟩
    have HB2 := Aside0.mk hb2
    clear hb2 HCALL
    go_wp2
    go_ret
    exact ⟨by rw [← HR2.out]; rfl, Below.trans HO1.out.below (HB2.out.mono HO1.out.below.size)⟩
   | some kk =>
    have HF := Aside0.mk hf
    rw [hf] at hR2
    simp only [hf] at HCALL
    cases kk with
    | zero =>
     have HR2 := Aside0.mk hR2
     clear hR2 hf
     go_wp2_with fail
     refine HCALL.out.mono ?_
     rintro e w2 ⟨rfl, hb2⟩
     have HO2 := Aside0.mk (HO1.out.step hb2)
     have HPV : Aside0 (w2.cell? ⟨wr.heap.size, 0, none⟩ = some (.int .i64 (i : Int))) := ⟨(hb2.cell (p := ⟨wr.heap.size, 0, none⟩) (by simp)).trans HPC.out⟩
     generalize wr.heap.size = pv at *
     clear hb2 HCALL HO HO1 HR HPC
     have hgi1 : IntKind.i64.wrap ((i : Int) + 1) = ((i + 1 : Nat) : Int) := by rw [IntWalk.i64_in _ (by have := HN.out; have := HLT.out; omega)]; rfl
     have HGI1 := Aside0.mk hgi1
     have hi1z : ((i + 1 : Nat) : Int) ≤ (n : Int) := by have := HLT.out; omega
     have h0z1 : (0 : Int) ≤ ((i + 1 : Nat) : Int) := by omega
     by_cases hcc : cap = i + 1
     ·have hp0 := HPV.out
      have hn1 : n = i + 1 := by have := HCAP.out; have := HLT.out; omega
      have h00 : ¬ (0 : Int) < ((n - (i + 1) : Nat) : Int) := by omega
      have HN1 := Aside0.mk hn1
      have hcct := eq_true hcc
      clear hn1 hcc
      go_wp2
      go_loopg [53] 1 (fun gg v53 w3 => v53 = .int .i64 0 ∧ Aside0 (Own w w3 g n b cp M) ∧ Aside0 (w3.cell? ⟨pv, 0, none⟩ = some (.int .i64 (i : Int))))
      case atStart => exact ⟨rfl, HO2, HPV⟩
      case round =>
       clear HO2 HPV hp0
       obtain ⟨rfl, HO3, HPV3⟩ := hrel
       have HO4 := Aside0.mk (HO3.out.step (below_drew (Below.refl wr.heap.size wr)))
       have HPV4 : Aside0 (wr.drew.cell? ⟨pv, 0, none⟩ = some (.int .i64 (i : Int))) := ⟨HPV3.out⟩
       have hp3 := HPV4.out
       have hog := (HO4.out.og i HLT.out).1
       have hii := (HO4.out.ob i i HLT.out HLT.out).1
       go_wp2
       refine start_ (n := 8) (S := fun w' => w'.cell? ⟨pv, 0, none⟩ = some (.int .i64 (i : Int)) ∧ w'.cell? ⟨g, i, none⟩ = some (.slice (some ⟨b i, 0, none⟩) n (cp i)) ∧ w'.cell? ⟨b i, i, none⟩ = some (.int .i64 ((M) i i))) (ds := []) #[false, false, false, false, false, false, false, false] (by kernel_rfl) rfl rfl ⟨hp3, hog, hii⟩ (fun hHeld => ?_)
       generalize wr.drew = w5 at HO4 HPV4 hp3 hog hii hHeld ⊢
       refine pure_ (i := 0) (N := some 96) (v := ?_) (a' := ?_) #[true, false, false, false, false, false, false, false] rfl rfl (by kernel_rfl) (fun _ _ _ h => h) (Or.inl ⟨by rfl, ?_⟩) ?_ ?_
       rotate_left
       ·intro w'
        go_simp
        with_reducible rfl
       rotate_left
       ·simp only [Act.put, List.setIfInBounds_toArray, List.set_cons_zero, List.set_cons_succ, i64_w, i32_w]
        rfl
       refine take_ (i := 1) (N := some 97) (v := ?_) (a' := ?_) #[true, true, false, false, false, false, false, false] rfl rfl (by kernel_rfl) (fun _ _ _ h => h) (Or.inl ⟨by rfl, ?_⟩) hHeld ?_ ?_
       rotate_left
       ·rintro w' ⟨s0, s1, s2⟩
        go_simp
        with_reducible rfl
       rotate_left
       ·simp only [Act.put, List.setIfInBounds_toArray, List.set_cons_zero, List.set_cons_succ, i64_w, i32_w]
        rfl
       refine pure_ (i := 2) (N := some 98) (v := ?_) (a' := ?_) #[true, true, true, false, false, false, false, false] rfl rfl (by kernel_rfl) (fun _ _ _ h => h) (Or.inl ⟨by rfl, ?_⟩) ?_ ?_
       rotate_left
       ·intro w'
        go_simp
        with_reducible rfl
       rotate_left
       ·simp only [Act.put, List.setIfInBounds_toArray, List.set_cons_zero, List.set_cons_succ, i64_w, i32_w]
        rfl
       refine take_ (i := 3) (N := some 99) (v := ?_) (a' := ?_) #[true, true, true, true, false, false, false, false] rfl rfl (by kernel_rfl) (fun _ _ _ h => h) (Or.inl ⟨by rfl, ?_⟩) hHeld ?_ ?_
       rotate_left
       ·rintro w' ⟨s0, s1, s2⟩
        go_simp
        with_reducible rfl
       rotate_left
       ·simp only [Act.put, List.setIfInBounds_toArray, List.set_cons_zero, List.set_cons_succ, i64_w, i32_w]
        rfl
       refine take_ (i := 4) (N := some 100) (v := ?_) (a' := ?_) #[true, true, true, true, true, false, false, false] rfl rfl (by kernel_rfl) (fun _ _ _ h => h) (Or.inl ⟨by rfl, ?_⟩) hHeld ?_ ?_
       rotate_left
       ·rintro w' ⟨s0, s1, s2⟩
        go_simp
        with_reducible rfl
       rotate_left
       ·simp only [Act.put, List.setIfInBounds_toArray, List.set_cons_zero, List.set_cons_succ, i64_w, i32_w]
        rfl
       refine pure_ (i := 5) (N := some 101) (v := ?_) (a' := ?_) #[true, true, true, true, true, true, false, false] rfl rfl (by kernel_rfl) (fun _ _ _ h => h) (Or.inl ⟨by rfl, ?_⟩) ?_ ?_
       rotate_left
       ·intro w'
        go_simp
        with_reducible rfl
       rotate_left
       ·simp only [Act.put, List.setIfInBounds_toArray, List.set_cons_zero, List.set_cons_succ, i64_w, i32_w]
        rfl
       refine take_ (i := 6) (N := some 102) (v := ?_) (a' := ?_) #[true, true, true, true, true, true, true, false] rfl rfl (by kernel_rfl) (fun _ _ _ h => h) (Or.inl ⟨by rfl, ?_⟩) hHeld ?_ ?_
       rotate_left
       ·rintro w' ⟨s0, s1, s2⟩
        go_simp
        with_reducible rfl
       rotate_left
       ·simp only [Act.put, List.setIfInBounds_toArray, List.set_cons_zero, List.set_cons_succ, i64_w, i32_w]
        rfl
       refine pure_ (i := 7) (N := some 4) (v := ?_) (a' := ?_) #[true, true, true, true, true, true, true, true] rfl rfl (by kernel_rfl) (fun _ _ _ h => h) (Or.inl ⟨by rfl, ?_⟩) ?_ ?_
       rotate_left
       ·intro w'
        go_simp
        with_reducible rfl
       rotate_left
       ·simp only [Act.put, List.setIfInBounds_toArray, List.set_cons_zero, List.set_cons_succ, i64_w, i32_w]
        rfl
       refine done_ (by kernel_rfl) ?_
       go_wp2
       go_roundg (n - (i + 1))
       case measure => have := HG.out; have := HLT.out; omega
       case rel => exact ⟨i + 1, el (M) i last, b, cp, (M) i i, turn, by have := HLT.out; omega, by omega, rfl, rfl, by first | rfl | (rw [HGI1.out]), ⟨HO4.out.congr (fun a b ha _ => by unfold el; rw [if_neg (by have := HN1.out; omega)])⟩, ⟨(fnd_some HF.out).2.2.1⟩, ⟨by rw [show n - (i + 1) = q from by have := HQ.out; omega]; exact HR2.out⟩⟩
     ·have hp0 := HPV.out
      go_wp2
      go_loopg [53] n (fun gg v53 w3 => ∃ t : Nat, i + 1 + t ≤ n ∧ n - (i + 1 + t) ≤ gg ∧ v53 = .int .i64 (t : Int) ∧ Aside0 (Own w w3 g n b cp (mid M i last (i + 1 + t) i)) ∧ Aside0 (w3.cell? ⟨pv, 0, none⟩ = some (.int .i64 (i : Int))))
      case atStart => exact ⟨0, by have := HLT.out; omega, by omega, by simp, ⟨HO2.out.congr (fun a b _ _ => (mid_start _ i last a b).symm)⟩, HPV⟩
      case round =>
       clear HO2 HPV hp0
       obtain ⟨t, ht, hg2, rfl, HO3, HPV3⟩ := hrel
       have HT := Aside0.mk ht
       have HG2 := Aside0.mk hg2
       by_cases htn : i + 1 + t < n
       ·have htz : (t : Int) < ((n - (i + 1) : Nat) : Int) := by omega
        have h0t : (0 : Int) ≤ (t : Int) := by omega
        have HTN := Aside0.mk htn
        have hog := (HO3.out.og (i + 1 + t) htn).1
        have hf0 := (HO3.out.ob (i + 1 + t) i htn HLT.out).1
        rw [mid_at _ i last (i + 1 + t) i i (Nat.le_refl _)] at hf0
        have hp3 := HPV3.out
        have ht1 : IntKind.i64.wrap ((t : Int) + 1) = ((t + 1 : Nat) : Int) := by rw [IntWalk.i64_in _ (by have := HN.out; omega)]; rfl
        have HT1 := Aside0.mk ht1
        generalize hr : i + 1 + t = r at *
        have HRE := Aside0.mk hr
        have htr : i + 1 + t = r := hr
        clear hr
        go_wp2
        go_loopg [11] n (fun gg v11 w4 => ∃ c' : Nat, i ≤ c' ∧ c' ≤ n ∧ n - c' ≤ gg ∧ v11 = .int .i64 (c' : Int) ∧ Aside0 (Own w w4 g n b cp (mid M i last r c')) ∧ Aside0 (w4.cell? ⟨pv, 0, none⟩ = some (.int .i64 (i : Int))))
        case atStart => exact ⟨i, Nat.le_refl _, HI.out, by omega, rfl, HO3, HPV3⟩
        case round =>
         clear HO3 HPV3 hp3 hog hf0
         obtain ⟨c', hc1, hc2, hg3, rfl, HO4, HPV4⟩ := hrel
         have HC1 := Aside0.mk hc1
         have HC2 := Aside0.mk hc2
         have HG3 := Aside0.mk hg3
         by_cases hcn : c' < n
         ·have hcz : (c' : Int) < (n : Int) := by omega
          have h0c : (0 : Int) ≤ (c' : Int) := by omega
          have HCN := Aside0.mk hcn
          have HO5 := Aside0.mk (HO4.out.step (below_drew (Below.refl wr.heap.size wr)))
          have HPV5 : Aside0 (wr.drew.cell? ⟨pv, 0, none⟩ = some (.int .i64 (i : Int))) := ⟨HPV4.out⟩
          have h1 := (HO5.out.ob r c' HTN.out hcn).1
          have h1f := (HO5.out.ob r c' HTN.out hcn).2
          have h2 := (HO5.out.og i HLT.out).1
          have h3 := (HO5.out.ob i i HLT.out HLT.out).1
          have h4 := (HO5.out.ob i c' HLT.out hcn).1
          rw [mid_at _ i last r c' c' (Nat.le_refl _)] at h1
          rw [mid_head] at h3 h4
          have hp4 := HPV5.out
          have hl0 : (last == 0) = false := by have := HL.out; simpa using this
          have hl1 : ¬ last = 0 := HL.out
          have hc11 : IntKind.i64.wrap ((c' : Int) + 1) = ((c' + 1 : Nat) : Int) := by rw [IntWalk.i64_in _ (by have := HN.out; omega)]; rfl
          have HC11 := Aside0.mk hc11
          clear hc1 hc2 hg3 hcn
          go_wp2
          refine start_ (n := 28) (S := fun w' => w'.cell? ⟨b r, c', none⟩ = some (.int .i64 ((M) r c')) ∧ w'.cell? ⟨pv, 0, none⟩ = some (.int .i64 (i : Int)) ∧ w'.cell? ⟨g, i, none⟩ = some (.slice (some ⟨b i, 0, none⟩) n (cp i)) ∧ w'.cell? ⟨b i, i, none⟩ = some (.int .i64 ((M) i i)) ∧ w'.cell? ⟨b i, c', none⟩ = some (.int .i64 ((M) i c'))) (ds := [27]) #[false, false, false, false, false, false, false, false, false, false, false, false, false, false, false, false, false, false, false, false, false, false, false, false, false, false, false, false] (by kernel_rfl) rfl rfl ⟨h1, hp4, h2, h3, h4⟩ (fun hHeld => ?_)
          generalize wr.drew = w5 at HO5 HPV5 h1 hp4 h2 h3 h4 h1f hHeld ⊢
          refine pure_ (i := 0) (N := some 68) (v := ?_) (a' := ?_) #[true, false, false, false, false, false, false, false, false, false, false, false, false, false, false, false, false, false, false, false, false, false, false, false, false, false, false, false] rfl rfl (by kernel_rfl) (fun _ _ _ h => h) (Or.inl ⟨by rfl, ?_⟩) ?_ ?_
          rotate_left
          ·intro w'
           go_simp
           with_reducible rfl
          rotate_left
          ·simp only [Act.put, List.setIfInBounds_toArray, List.set_cons_zero, List.set_cons_succ, i64_w, i32_w]
           rfl
          refine pure_ (i := 1) (N := some 69) (v := ?_) (a' := ?_) #[true, true, false, false, false, false, false, false, false, false, false, false, false, false, false, false, false, false, false, false, false, false, false, false, false, false, false, false] rfl rfl (by kernel_rfl) (fun _ _ _ h => h) (Or.inl ⟨by rfl, ?_⟩) ?_ ?_
          rotate_left
          ·intro w'
           go_simp
           with_reducible rfl
          rotate_left
          ·simp only [Act.put, List.setIfInBounds_toArray, List.set_cons_zero, List.set_cons_succ, i64_w, i32_w]
           rfl
          refine pure_ (i := 2) (N := some 70) (v := ?_) (a' := ?_) #[true, true, true, false, false, false, false, false, false, false, false, false, false, false, false, false, false, false, false, false, false, false, false, false, false, false, false, false] rfl rfl (by kernel_rfl) (fun _ _ _ h => h) (Or.inl ⟨by rfl, ?_⟩) ?_ ?_
          rotate_left
          ·intro w'
           go_simp
           with_reducible rfl
          rotate_left
          ·simp only [Act.put, List.setIfInBounds_toArray, List.set_cons_zero, List.set_cons_succ, i64_w, i32_w]
           rfl
          refine pure_ (i := 3) (N := some 71) (v := ?_) (a' := ?_) #[true, true, true, true, false, false, false, false, false, false, false, false, false, false, false, false, false, false, false, false, false, false, false, false, false, false, false, false] rfl rfl (by kernel_rfl) (fun _ _ _ h => h) (Or.inl ⟨by rfl, ?_⟩) ?_ ?_
          rotate_left
          ·intro w'
           go_simp
           with_reducible rfl
          rotate_left
          ·simp only [Act.put, List.setIfInBounds_toArray, List.set_cons_zero, List.set_cons_succ, i64_w, i32_w]
           rfl
          refine pure_ (i := 4) (N := some 72) (v := ?_) (a' := ?_) #[true, true, true, true, true, false, false, false, false, false, false, false, false, false, false, false, false, false, false, false, false, false, false, false, false, false, false, false] rfl rfl (by kernel_rfl) (fun _ _ _ h => h) (Or.inl ⟨by rfl, ?_⟩) ?_ ?_
          rotate_left
          ·intro w'
           go_simp
           with_reducible rfl
          rotate_left
          ·simp only [Act.put, List.setIfInBounds_toArray, List.set_cons_zero, List.set_cons_succ, i64_w, i32_w]
           rfl
          refine take_ (i := 5) (N := some 73) (v := ?_) (a' := ?_) #[true, true, true, true, true, true, false, false, false, false, false, false, false, false, false, false, false, false, false, false, false, false, false, false, false, false, false, false] rfl rfl (by kernel_rfl) (fun _ _ _ h => h) (Or.inl ⟨by rfl, ?_⟩) hHeld ?_ ?_
          rotate_left
          ·rintro w' ⟨s0, s1, s2, s3, s4⟩
           go_simp
           with_reducible rfl
          rotate_left
          ·simp only [Act.put, List.setIfInBounds_toArray, List.set_cons_zero, List.set_cons_succ, i64_w, i32_w]
           rfl
          refine pure_ (i := 6) (N := some 74) (v := ?_) (a' := ?_) #[true, true, true, true, true, true, true, false, false, false, false, false, false, false, false, false, false, false, false, false, false, false, false, false, false, false, false, false] rfl rfl (by kernel_rfl) (fun _ _ _ h => h) (Or.inl ⟨by rfl, ?_⟩) ?_ ?_
          rotate_left
          ·intro w'
           go_simp
           with_reducible rfl
          rotate_left
          ·simp only [Act.put, List.setIfInBounds_toArray, List.set_cons_zero, List.set_cons_succ, i64_w, i32_w]
           rfl
          refine take_ (i := 7) (N := some 75) (v := ?_) (a' := ?_) #[true, true, true, true, true, true, true, true, false, false, false, false, false, false, false, false, false, false, false, false, false, false, false, false, false, false, false, false] rfl rfl (by kernel_rfl) (fun _ _ _ h => h) (Or.inl ⟨by rfl, ?_⟩) hHeld ?_ ?_
          rotate_left
          ·rintro w' ⟨s0, s1, s2, s3, s4⟩
           go_simp
           with_reducible rfl
          rotate_left
          ·simp only [Act.put, List.setIfInBounds_toArray, List.set_cons_zero, List.set_cons_succ, i64_w, i32_w]
           rfl
          refine pure_ (i := 8) (N := some 76) (v := ?_) (a' := ?_) #[true, true, true, true, true, true, true, true, true, false, false, false, false, false, false, false, false, false, false, false, false, false, false, false, false, false, false, false] rfl rfl (by kernel_rfl) (fun _ _ _ h => h) (Or.inl ⟨by rfl, ?_⟩) ?_ ?_
          rotate_left
          ·intro w'
           go_simp
           with_reducible rfl
          rotate_left
          ·simp only [Act.put, List.setIfInBounds_toArray, List.set_cons_zero, List.set_cons_succ, i64_w, i32_w]
           rfl
          refine take_ (i := 9) (N := some 77) (v := ?_) (a' := ?_) #[true, true, true, true, true, true, true, true, true, true, false, false, false, false, false, false, false, false, false, false, false, false, false, false, false, false, false, false] rfl rfl (by kernel_rfl) (fun _ _ _ h => h) (Or.inl ⟨by rfl, ?_⟩) hHeld ?_ ?_
          rotate_left
          ·rintro w' ⟨s0, s1, s2, s3, s4⟩
           go_simp
           with_reducible rfl
          rotate_left
          ·simp only [Act.put, List.setIfInBounds_toArray, List.set_cons_zero, List.set_cons_succ, i64_w, i32_w]
           rfl
          refine take_ (i := 10) (N := some 78) (v := ?_) (a' := ?_) #[true, true, true, true, true, true, true, true, true, true, true, false, false, false, false, false, false, false, false, false, false, false, false, false, false, false, false, false] rfl rfl (by kernel_rfl) (fun _ _ _ h => h) (Or.inl ⟨by rfl, ?_⟩) hHeld ?_ ?_
          rotate_left
          ·rintro w' ⟨s0, s1, s2, s3, s4⟩
           go_simp
           with_reducible rfl
          rotate_left
          ·simp only [Act.put, List.setIfInBounds_toArray, List.set_cons_zero, List.set_cons_succ, i64_w, i32_w]
           rfl
          refine pure_ (i := 11) (N := some 79) (v := ?_) (a' := ?_) #[true, true, true, true, true, true, true, true, true, true, true, true, false, false, false, false, false, false, false, false, false, false, false, false, false, false, false, false] rfl rfl (by kernel_rfl) (fun _ _ _ h => h) (Or.inl ⟨by rfl, ?_⟩) ?_ ?_
          rotate_left
          ·intro w'
           go_simp
           with_reducible rfl
          rotate_left
          ·simp only [Act.put, List.setIfInBounds_toArray, List.set_cons_zero, List.set_cons_succ, i64_w, i32_w]
           rfl
          refine take_ (i := 12) (N := some 80) (v := ?_) (a' := ?_) #[true, true, true, true, true, true, true, true, true, true, true, true, true, false, false, false, false, false, false, false, false, false, false, false, false, false, false, false] rfl rfl (by kernel_rfl) (fun _ _ _ h => h) (Or.inl ⟨by rfl, ?_⟩) hHeld ?_ ?_
          rotate_left
          ·rintro w' ⟨s0, s1, s2, s3, s4⟩
           go_simp
           with_reducible rfl
          rotate_left
          ·simp only [Act.put, List.setIfInBounds_toArray, List.set_cons_zero, List.set_cons_succ, i64_w, i32_w]
           rfl
          refine pure_ (i := 13) (N := some 81) (v := ?_) (a' := ?_) #[true, true, true, true, true, true, true, true, true, true, true, true, true, true, false, false, false, false, false, false, false, false, false, false, false, false, false, false] rfl rfl (by kernel_rfl) (fun _ _ _ h => h) (Or.inl ⟨by rfl, ?_⟩) ?_ ?_
          rotate_left
          ·intro w'
           go_simp
           with_reducible rfl
          rotate_left
          ·simp only [Act.put, List.setIfInBounds_toArray, List.set_cons_zero, List.set_cons_succ, i64_w, i32_w]
           rfl
          refine pure_ (i := 14) (N := some 82) (v := ?_) (a' := ?_) #[true, true, true, true, true, true, true, true, true, true, true, true, true, true, true, false, false, false, false, false, false, false, false, false, false, false, false, false] rfl rfl (by kernel_rfl) (fun _ _ _ h => h) (Or.inl ⟨by rfl, ?_⟩) ?_ ?_
          rotate_left
          ·intro w'
           go_simp
           with_reducible rfl
          rotate_left
          ·simp only [Act.put, List.setIfInBounds_toArray, List.set_cons_zero, List.set_cons_succ, i64_w, i32_w]
           rfl
          refine pure_ (i := 15) (N := some 83) (v := ?_) (a' := ?_) #[true, true, true, true, true, true, true, true, true, true, true, true, true, true, true, true, false, false, false, false, false, false, false, false, false, false, false, false] rfl rfl (by kernel_rfl) (fun _ _ _ h => h) (Or.inl ⟨by rfl, ?_⟩) ?_ ?_
          rotate_left
          ·intro w'
           go_simp
           with_reducible rfl
          rotate_left
          ·simp only [Act.put, List.setIfInBounds_toArray, List.set_cons_zero, List.set_cons_succ, i64_w, i32_w]
           rfl
          refine take_ (i := 16) (N := some 84) (v := ?_) (a' := ?_) #[true, true, true, true, true, true, true, true, true, true, true, true, true, true, true, true, true, false, false, false, false, false, false, false, false, false, false, false] rfl rfl (by kernel_rfl) (fun _ _ _ h => h) (Or.inl ⟨by rfl, ?_⟩) hHeld ?_ ?_
          rotate_left
          ·rintro w' ⟨s0, s1, s2, s3, s4⟩
           go_simp
           with_reducible rfl
          rotate_left
          ·simp only [Act.put, List.setIfInBounds_toArray, List.set_cons_zero, List.set_cons_succ, i64_w, i32_w]
           rfl
          refine pure_ (i := 17) (N := some 85) (v := ?_) (a' := ?_) #[true, true, true, true, true, true, true, true, true, true, true, true, true, true, true, true, true, true, false, false, false, false, false, false, false, false, false, false] rfl rfl (by kernel_rfl) (fun _ _ _ h => h) (Or.inl ⟨by rfl, ?_⟩) ?_ ?_
          rotate_left
          ·intro w'
           go_simp
           with_reducible rfl
          rotate_left
          ·simp only [Act.put, List.setIfInBounds_toArray, List.set_cons_zero, List.set_cons_succ, i64_w, i32_w]
           rfl
          refine take_ (i := 18) (N := some 86) (v := ?_) (a' := ?_) #[true, true, true, true, true, true, true, true, true, true, true, true, true, true, true, true, true, true, true, false, false, false, false, false, false, false, false, false] rfl rfl (by kernel_rfl) (fun _ _ _ h => h) (Or.inl ⟨by rfl, ?_⟩) hHeld ?_ ?_
          rotate_left
          ·rintro w' ⟨s0, s1, s2, s3, s4⟩
           go_simp
           with_reducible rfl
          rotate_left
          ·simp only [Act.put, List.setIfInBounds_toArray, List.set_cons_zero, List.set_cons_succ, i64_w, i32_w]
           rfl
          refine pure_ (i := 19) (N := some 87) (v := ?_) (a' := ?_) #[true, true, true, true, true, true, true, true, true, true, true, true, true, true, true, true, true, true, true, true, false, false, false, false, false, false, false, false] rfl rfl (by kernel_rfl) (fun _ _ _ h => h) (Or.inl ⟨by rfl, ?_⟩) ?_ ?_
          rotate_left
          ·intro w'
           go_simp
           with_reducible rfl
          rotate_left
          ·simp only [Act.put, List.setIfInBounds_toArray, List.set_cons_zero, List.set_cons_succ, i64_w, i32_w]
           rfl
          refine pure_ (i := 20) (N := some 88) (v := ?_) (a' := ?_) #[true, true, true, true, true, true, true, true, true, true, true, true, true, true, true, true, true, true, true, true, true, false, false, false, false, false, false, false] rfl rfl (by kernel_rfl) (fun _ _ _ h => h) (Or.inl ⟨by rfl, ?_⟩) ?_ ?_
          rotate_left
          ·intro w'
           go_simp
           with_reducible rfl
          rotate_left
          ·simp only [Act.put, List.setIfInBounds_toArray, List.set_cons_zero, List.set_cons_succ, i64_w, i32_w]
           rfl
          refine take_ (i := 21) (N := some 89) (v := ?_) (a' := ?_) #[true, true, true, true, true, true, true, true, true, true, true, true, true, true, true, true, true, true, true, true, true, true, false, false, false, false, false, false] rfl rfl (by kernel_rfl) (fun _ _ _ h => h) (Or.inl ⟨by rfl, ?_⟩) hHeld ?_ ?_
          rotate_left
          ·rintro w' ⟨s0, s1, s2, s3, s4⟩
           go_simp
           with_reducible rfl
          rotate_left
          ·simp only [Act.put, List.setIfInBounds_toArray, List.set_cons_zero, List.set_cons_succ, i64_w, i32_w]
           rfl
          refine pure_ (i := 22) (N := some 90) (v := ?_) (a' := ?_) #[true, true, true, true, true, true, true, true, true, true, true, true, true, true, true, true, true, true, true, true, true, true, true, false, false, false, false, false] rfl rfl (by kernel_rfl) (fun _ _ _ h => h) (Or.inl ⟨by rfl, ?_⟩) ?_ ?_
          rotate_left
          ·intro w'
           go_simp
           with_reducible rfl
          rotate_left
          ·simp only [Act.put, List.setIfInBounds_toArray, List.set_cons_zero, List.set_cons_succ, i64_w, i32_w]
           rfl
          refine pure_ (i := 23) (N := some 91) (v := ?_) (a' := ?_) #[true, true, true, true, true, true, true, true, true, true, true, true, true, true, true, true, true, true, true, true, true, true, true, true, false, false, false, false] rfl rfl (by kernel_rfl) (fun _ _ _ h => h) (Or.inl ⟨by rfl, ?_⟩) ?_ ?_
          rotate_left
          ·intro w'
           go_simp
           with_reducible rfl
          rotate_left
          ·simp only [Act.put, List.setIfInBounds_toArray, List.set_cons_zero, List.set_cons_succ, i64_w, i32_w]
           rfl
          refine pure_ (i := 24) (N := some 92) (v := ?_) (a' := ?_) #[true, true, true, true, true, true, true, true, true, true, true, true, true, true, true, true, true, true, true, true, true, true, true, true, true, false, false, false] rfl rfl (by kernel_rfl) (fun _ _ _ h => h) (Or.inl ⟨by rfl, ?_⟩) ?_ ?_
          rotate_left
          ·intro w'
           go_simp
           with_reducible rfl
          rotate_left
          ·simp only [Act.put, List.setIfInBounds_toArray, List.set_cons_zero, List.set_cons_succ, i64_w, i32_w]
           rfl
          refine pure_ (i := 25) (N := some 93) (v := ?_) (a' := ?_) #[true, true, true, true, true, true, true, true, true, true, true, true, true, true, true, true, true, true, true, true, true, true, true, true, true, true, false, false] rfl rfl (by kernel_rfl) (fun _ _ _ h => h) (Or.inl ⟨by rfl, ?_⟩) ?_ ?_
          rotate_left
          ·intro w'
           go_simp
           with_reducible rfl
          rotate_left
          ·simp only [Act.put, List.setIfInBounds_toArray, List.set_cons_zero, List.set_cons_succ, i64_w, i32_w]
           rfl
          refine pure_ (i := 26) (N := some 94) (v := ?_) (a' := ?_) #[true, true, true, true, true, true, true, true, true, true, true, true, true, true, true, true, true, true, true, true, true, true, true, true, true, true, true, false] rfl rfl (by kernel_rfl) (fun _ _ _ h => h) (Or.inl ⟨by rfl, ?_⟩) ?_ ?_
          rotate_left
          ·intro w'
           go_simp
           with_reducible rfl
          rotate_left
          ·simp only [Act.put, List.setIfInBounds_toArray, List.set_cons_zero, List.set_cons_succ, i64_w, i32_w]
           rfl
          refine last_ (i := 27) (N := none) #[true, true, true, true, true, true, true, true, true, true, true, true, true, true, true, true, true, true, true, true, true, true, true, true, true, true, true, true] rfl rfl (by kernel_rfl) (by decide) (fun K hK => ?_)
          refine skip_ (w1 := ?_) (by rfl) rfl ?_ ?_
          rotate_left
          ·go_simp
           rfl
          refine hK.out _ _ ?_
          clear hK K
          refine done_ (by kernel_rfl) ?_
          go_wp2
          go_roundg (n - (c' + 1))
          case measure => have := HG3.out; have := HCN.out; omega
          case rel =>
           have hput := (HO5.out.put HTN.out HCN.out (ev M i last r c')).congr (M' := mid M i last r (c' + 1)) (fun a b _ _ => mid_next _ i last r c' (by have := HRE.out; omega) HC1.out a b)
           refine ⟨c' + 1, by have := HC1.out; omega, HCN.out, by omega, by first | rfl | (rw [HC11.out]) | (simp [HC11.out]), ⟨hput⟩, ⟨?_⟩⟩
           rw [cset_other (by intro e; exact HNB.out r HTN.out (congrArg Addr.block e))]
           exact HPV5.out
         ·have hcz : ¬ (c' : Int) < (n : Int) := by omega
          obtain rfl : c' = n := by have := HC2.out; omega
          clear hcn hc1 hc2 hg3
          go_wp2
          go_roundg (c' - (r + 1))
          case measure => have := HG2.out; have := HTN.out; omega
          case rel => exact ⟨t + 1, by have := HTN.out; have := HRE.out; omega, by have := HRE.out; omega, by first | rfl | (rw [HT1.out]) | (simp [HT1.out]), ⟨HO4.out.congr (fun a b _ hb => by rw [mid_row _ i last r a b hb, show i + 1 + (t + 1) = r + 1 from by have := HRE.out; omega])⟩, HPV4⟩
       ·have htz : ¬ (t : Int) < ((n - (i + 1) : Nat) : Int) := by omega
        have hn1 : i + 1 + t = n := by omega
        rw [hn1] at HO3
        have HO4 := Aside0.mk (HO3.out.step (below_drew (Below.refl wr.heap.size wr)))
        have HPV4 : Aside0 (wr.drew.cell? ⟨pv, 0, none⟩ = some (.int .i64 (i : Int))) := ⟨HPV3.out⟩
        have hp3 := HPV4.out
        have hog := (HO4.out.og i HLT.out).1
        have hii := (HO4.out.ob i i HLT.out HLT.out).1
        rw [mid_head] at hii
        clear hn1 htn ht hg2
        go_wp2
        refine start_ (n := 8) (S := fun w' => w'.cell? ⟨pv, 0, none⟩ = some (.int .i64 (i : Int)) ∧ w'.cell? ⟨g, i, none⟩ = some (.slice (some ⟨b i, 0, none⟩) n (cp i)) ∧ w'.cell? ⟨b i, i, none⟩ = some (.int .i64 ((M) i i))) (ds := []) #[false, false, false, false, false, false, false, false] (by kernel_rfl) rfl rfl ⟨hp3, hog, hii⟩ (fun hHeld => ?_)
        generalize wr.drew = w5 at HO4 HPV4 hp3 hog hii hHeld ⊢
        refine pure_ (i := 0) (N := some 96) (v := ?_) (a' := ?_) #[true, false, false, false, false, false, false, false] rfl rfl (by kernel_rfl) (fun _ _ _ h => h) (Or.inl ⟨by rfl, ?_⟩) ?_ ?_
        rotate_left
        ·intro w'
         go_simp
         with_reducible rfl
        rotate_left
        ·simp only [Act.put, List.setIfInBounds_toArray, List.set_cons_zero, List.set_cons_succ, i64_w, i32_w]
         rfl
        refine take_ (i := 1) (N := some 97) (v := ?_) (a' := ?_) #[true, true, false, false, false, false, false, false] rfl rfl (by kernel_rfl) (fun _ _ _ h => h) (Or.inl ⟨by rfl, ?_⟩) hHeld ?_ ?_
        rotate_left
        ·rintro w' ⟨s0, s1, s2⟩
         go_simp
         with_reducible rfl
        rotate_left
        ·simp only [Act.put, List.setIfInBounds_toArray, List.set_cons_zero, List.set_cons_succ, i64_w, i32_w]
         rfl
        refine pure_ (i := 2) (N := some 98) (v := ?_) (a' := ?_) #[true, true, true, false, false, false, false, false] rfl rfl (by kernel_rfl) (fun _ _ _ h => h) (Or.inl ⟨by rfl, ?_⟩) ?_ ?_
        rotate_left
        ·intro w'
         go_simp
         with_reducible rfl
        rotate_left
        ·simp only [Act.put, List.setIfInBounds_toArray, List.set_cons_zero, List.set_cons_succ, i64_w, i32_w]
         rfl
        refine take_ (i := 3) (N := some 99) (v := ?_) (a' := ?_) #[true, true, true, true, false, false, false, false] rfl rfl (by kernel_rfl) (fun _ _ _ h => h) (Or.inl ⟨by rfl, ?_⟩) hHeld ?_ ?_
        rotate_left
        ·rintro w' ⟨s0, s1, s2⟩
         go_simp
         with_reducible rfl
        rotate_left
        ·simp only [Act.put, List.setIfInBounds_toArray, List.set_cons_zero, List.set_cons_succ, i64_w, i32_w]
         rfl
        refine take_ (i := 4) (N := some 100) (v := ?_) (a' := ?_) #[true, true, true, true, true, false, false, false] rfl rfl (by kernel_rfl) (fun _ _ _ h => h) (Or.inl ⟨by rfl, ?_⟩) hHeld ?_ ?_
        rotate_left
        ·rintro w' ⟨s0, s1, s2⟩
         go_simp
         with_reducible rfl
        rotate_left
        ·simp only [Act.put, List.setIfInBounds_toArray, List.set_cons_zero, List.set_cons_succ, i64_w, i32_w]
         rfl
        refine pure_ (i := 5) (N := some 101) (v := ?_) (a' := ?_) #[true, true, true, true, true, true, false, false] rfl rfl (by kernel_rfl) (fun _ _ _ h => h) (Or.inl ⟨by rfl, ?_⟩) ?_ ?_
        rotate_left
        ·intro w'
         go_simp
         with_reducible rfl
        rotate_left
        ·simp only [Act.put, List.setIfInBounds_toArray, List.set_cons_zero, List.set_cons_succ, i64_w, i32_w]
         rfl
        refine take_ (i := 6) (N := some 102) (v := ?_) (a' := ?_) #[true, true, true, true, true, true, true, false] rfl rfl (by kernel_rfl) (fun _ _ _ h => h) (Or.inl ⟨by rfl, ?_⟩) hHeld ?_ ?_
        rotate_left
        ·rintro w' ⟨s0, s1, s2⟩
         go_simp
         with_reducible rfl
        rotate_left
        ·simp only [Act.put, List.setIfInBounds_toArray, List.set_cons_zero, List.set_cons_succ, i64_w, i32_w]
         rfl
        refine pure_ (i := 7) (N := some 4) (v := ?_) (a' := ?_) #[true, true, true, true, true, true, true, true] rfl rfl (by kernel_rfl) (fun _ _ _ h => h) (Or.inl ⟨by rfl, ?_⟩) ?_ ?_
        rotate_left
        ·intro w'
         go_simp
         with_reducible rfl
        rotate_left
        ·simp only [Act.put, List.setIfInBounds_toArray, List.set_cons_zero, List.set_cons_succ, i64_w, i32_w]
         rfl
        refine done_ (by kernel_rfl) ?_
        go_wp2
        go_roundg (n - (i + 1))
        case measure => have := HG.out; have := HLT.out; omega
        case rel => exact ⟨i + 1, el (M) i last, b, cp, (M) i i, turn, by have := HLT.out; omega, by omega, rfl, rfl, by first | rfl | (rw [HGI1.out]), ⟨HO4.out.congr (fun a b ha _ => mid_end _ i last a b ha)⟩, ⟨(fnd_some HF.out).2.2.1⟩, ⟨by rw [show n - (i + 1) = q from by have := HQ.out; omega]; exact HR2.out⟩⟩
    | succ kk =>
     obtain ⟨kp, hkp⟩ : ∃ kp, kp = kk + 1 := ⟨_, rfl⟩
     simp only [← hkp] at hf hR2 HCALL
     obtain ⟨s, hs⟩ : ∃ s, s = i + kp := ⟨_, rfl⟩
     have hfs := fnd_some hf
     have hsn : s < n := by have := HLT.out; omega
     have hsi : ¬ s = i := by omega
     have hik : IntKind.i64.wrap ((i : Int) + (kp : Int)) = (s : Int) := by rw [IntWalk.i64_in _ (by have := HN.out; omega), hs]; rfl
     have hnz : M s i ≠ 0 := by rw [hs]; exact hfs.2.2.1
     rw [← hs] at hR2
     have HNZ := Aside0.mk hnz
     have HSN := Aside0.mk hsn
     have HSI := Aside0.mk hsi
     have HR2 := Aside0.mk hR2
     have hkz : (0 : Int) < (kp : Int) := by omega
     have hkz' : ¬ (kp : Int) < 0 := by omega
     clear hR2 hf HF hfs hnz hs hkp kk
     go_wp2_with fail
     refine HCALL.out.mono ?_
     rintro e w2 ⟨rfl, hb2⟩
     have HO2 := Aside0.mk (HO1.out.step hb2)
     have HPV : Aside0 (w2.cell? ⟨wr.heap.size, 0, none⟩ = some (.int .i64 (i : Int))) := ⟨(hb2.cell (p := ⟨wr.heap.size, 0, none⟩) (by simp)).trans HPC.out⟩
     generalize wr.heap.size = pv at *
     clear hb2 HCALL HO HO1 HR HPC
     have HO3 := Aside0.mk (HO2.out.step (below_drew (Below.refl w2.heap.size w2)))
     have HPV3 : Aside0 (w2.drew.cell? ⟨pv, 0, none⟩ = some (.int .i64 (i : Int))) := ⟨HPV.out⟩
     have HSW := Aside0.mk (HO3.out.swap HLT.out HSN.out)
     have hp0 := HPV3.out
     have hgs := (HO3.out.og s HSN.out).1
     have hgsf := (HO3.out.og s HSN.out).2
     have hgi := (HO3.out.og i HLT.out).1
     have hgif := (HO3.out.og i HLT.out).2
     have hst : (w2.drew.setCell ⟨g, i, none⟩ (.slice (some ⟨b s, 0, none⟩) n (cp s))).cell? ⟨g, s, none⟩ = some (.slice (some ⟨b s, 0, none⟩) n (cp s)) := by rw [cset_other (by intro e; exact HSI.out (congrArg Addr.off e).symm)]; exact hgs
     have hstf : (w2.drew.setCell ⟨g, i, none⟩ (.slice (some ⟨b s, 0, none⟩) n (cp s))).frozen? ⟨g, s, none⟩ = false := by rw [fset]; exact hgsf
     have hsz : (s : Int) < (n : Int) := by omega
     have h0s : (0 : Int) ≤ (s : Int) := by omega
     clear HO2 HPV hsn hsi
     go_wp2
     refine start_ (n := 20) (S := fun w' => w'.cell? ⟨pv, 0, none⟩ = some (.int .i64 (i : Int)) ∧ w'.cell? ⟨g, s, none⟩ = some (.slice (some ⟨b s, 0, none⟩) n (cp s))) (ds := [19]) #[false, false, false, false, false, false, false, false, false, false, false, false, false, false, false, false, false, false, false, false] (by kernel_rfl) rfl rfl ⟨hp0, hgs⟩ (fun hHeld => ?_)
     generalize w2.drew = w5 at HO3 HPV3 HSW hp0 hgs hgi hgsf hgif hst hstf hHeld ⊢
     refine pure_ (i := 0) (N := some 28) (v := ?_) (a' := ?_) #[true, false, false, false, false, false, false, false, false, false, false, false, false, false, false, false, false, false, false, false] rfl rfl (by kernel_rfl) (fun _ _ _ h => h) (Or.inl ⟨by rfl, ?_⟩) ?_ ?_
     rotate_left
     ·intro w'
      go_simp
      with_reducible rfl
     rotate_left
     ·simp only [Act.put, List.setIfInBounds_toArray, List.set_cons_zero, List.set_cons_succ, i64_w, i32_w]
      rfl
     refine take_ (i := 1) (N := some 29) (v := ?_) (a' := ?_) #[true, true, false, false, false, false, false, false, false, false, false, false, false, false, false, false, false, false, false, false] rfl rfl (by kernel_rfl) (fun _ _ _ h => h) (Or.inl ⟨by rfl, ?_⟩) hHeld ?_ ?_
     rotate_left
     ·rintro w' ⟨s0, s1⟩
      go_simp
      with_reducible rfl
     rotate_left
     ·simp only [Act.put, List.setIfInBounds_toArray, List.set_cons_zero, List.set_cons_succ, i64_w, i32_w]
      rfl
     refine pure_ (i := 2) (N := some 30) (v := ?_) (a' := ?_) #[true, true, true, false, false, false, false, false, false, false, false, false, false, false, false, false, false, false, false, false] rfl rfl (by kernel_rfl) (fun _ _ _ h => h) (Or.inl ⟨by rfl, ?_⟩) ?_ ?_
     rotate_left
     ·intro w'
      go_simp
      with_reducible rfl
     rotate_left
     ·simp only [Act.put, List.setIfInBounds_toArray, List.set_cons_zero, List.set_cons_succ, i64_w, i32_w]
      rfl
     refine take_ (i := 3) (N := some 31) (v := ?_) (a' := ?_) #[true, true, true, true, false, false, false, false, false, false, false, false, false, false, false, false, false, false, false, false] rfl rfl (by kernel_rfl) (fun _ _ _ h => h) (Or.inl ⟨by rfl, ?_⟩) hHeld ?_ ?_
     rotate_left
     ·rintro w' ⟨s0, s1⟩
      go_simp
      with_reducible rfl
     rotate_left
     ·simp only [Act.put, List.setIfInBounds_toArray, List.set_cons_zero, List.set_cons_succ, i64_w, i32_w]
      rfl
     refine pure_ (i := 4) (N := some 32) (v := ?_) (a' := ?_) #[true, true, true, true, true, false, false, false, false, false, false, false, false, false, false, false, false, false, false, false] rfl rfl (by kernel_rfl) (fun _ _ _ h => h) (Or.inl ⟨by rfl, ?_⟩) ?_ ?_
     rotate_left
     ·intro w'
      go_simp
      with_reducible rfl
     rotate_left
     ·simp only [Act.put, List.setIfInBounds_toArray, List.set_cons_zero, List.set_cons_succ, i64_w, i32_w]
      rfl
     refine pure_ (i := 5) (N := some 33) (v := ?_) (a' := ?_) #[true, true, true, true, true, true, false, false, false, false, false, false, false, false, false, false, false, false, false, false] rfl rfl (by kernel_rfl) (fun _ _ _ h => h) (Or.inl ⟨by rfl, ?_⟩) ?_ ?_
     rotate_left
     ·intro w'
      go_simp
      with_reducible rfl
     rotate_left
     ·simp only [Act.put, List.setIfInBounds_toArray, List.set_cons_zero, List.set_cons_succ, i64_w, i32_w]
      rfl
     refine pure_ (i := 6) (N := some 34) (v := ?_) (a' := ?_) #[true, true, true, true, true, true, true, false, false, false, false, false, false, false, false, false, false, false, false, false] rfl rfl (by kernel_rfl) (fun _ _ _ h => h) (Or.inl ⟨by rfl, ?_⟩) ?_ ?_
     rotate_left
     ·intro w'
      go_simp
      with_reducible rfl
     rotate_left
     ·simp only [Act.put, List.setIfInBounds_toArray, List.set_cons_zero, List.set_cons_succ, i64_w, i32_w]
      rfl
     refine take_ (i := 7) (N := some 35) (v := ?_) (a' := ?_) #[true, true, true, true, true, true, true, true, false, false, false, false, false, false, false, false, false, false, false, false] rfl rfl (by kernel_rfl) (fun _ _ _ h => h) (Or.inl ⟨by rfl, ?_⟩) hHeld ?_ ?_
     rotate_left
     ·rintro w' ⟨s0, s1⟩
      go_simp
      with_reducible rfl
     rotate_left
     ·simp only [Act.put, List.setIfInBounds_toArray, List.set_cons_zero, List.set_cons_succ, i64_w, i32_w]
      rfl
     refine pure_ (i := 8) (N := some 36) (v := ?_) (a' := ?_) #[true, true, true, true, true, true, true, true, true, false, false, false, false, false, false, false, false, false, false, false] rfl rfl (by kernel_rfl) (fun _ _ _ h => h) (Or.inl ⟨by rfl, ?_⟩) ?_ ?_
     rotate_left
     ·intro w'
      go_simp
      with_reducible rfl
     rotate_left
     ·simp only [Act.put, List.setIfInBounds_toArray, List.set_cons_zero, List.set_cons_succ, i64_w, i32_w]
      rfl
     refine pure_ (i := 9) (N := some 37) (v := ?_) (a' := ?_) #[true, true, true, true, true, true, true, true, true, true, false, false, false, false, false, false, false, false, false, false] rfl rfl (by kernel_rfl) (fun _ _ _ h => h) (Or.inl ⟨by rfl, ?_⟩) ?_ ?_
     rotate_left
     ·intro w'
      go_simp
      with_reducible rfl
     rotate_left
     ·simp only [Act.put, List.setIfInBounds_toArray, List.set_cons_zero, List.set_cons_succ, i64_w, i32_w]
      rfl
     refine pure_ (i := 10) (N := some 38) (v := ?_) (a' := ?_) #[true, true, true, true, true, true, true, true, true, true, true, false, false, false, false, false, false, false, false, false] rfl rfl (by kernel_rfl) (fun _ _ _ h => h) (Or.inl ⟨by rfl, ?_⟩) ?_ ?_
     rotate_left
     ·intro w'
      go_simp
      with_reducible rfl
     rotate_left
     ·simp only [Act.put, List.setIfInBounds_toArray, List.set_cons_zero, List.set_cons_succ, i64_w, i32_w]
      rfl
     refine take_ (i := 11) (N := some 39) (v := ?_) (a' := ?_) #[true, true, true, true, true, true, true, true, true, true, true, true, false, false, false, false, false, false, false, false] rfl rfl (by kernel_rfl) (fun _ _ _ h => h) (Or.inl ⟨by rfl, ?_⟩) hHeld ?_ ?_
     rotate_left
     ·rintro w' ⟨s0, s1⟩
      go_simp
      with_reducible rfl
     rotate_left
     ·simp only [Act.put, List.setIfInBounds_toArray, List.set_cons_zero, List.set_cons_succ, i64_w, i32_w]
      rfl
     refine pure_ (i := 12) (N := some 40) (v := ?_) (a' := ?_) #[true, true, true, true, true, true, true, true, true, true, true, true, true, false, false, false, false, false, false, false] rfl rfl (by kernel_rfl) (fun _ _ _ h => h) (Or.inl ⟨by rfl, ?_⟩) ?_ ?_
     rotate_left
     ·intro w'
      go_simp
      with_reducible rfl
     rotate_left
     ·simp only [Act.put, List.setIfInBounds_toArray, List.set_cons_zero, List.set_cons_succ, i64_w, i32_w]
      rfl
     refine take_ (i := 13) (N := some 41) (v := ?_) (a' := ?_) #[true, true, true, true, true, true, true, true, true, true, true, true, true, true, false, false, false, false, false, false] rfl rfl (by kernel_rfl) (fun _ _ _ h => h) (Or.inl ⟨by rfl, ?_⟩) hHeld ?_ ?_
     rotate_left
     ·rintro w' ⟨s0, s1⟩
      go_simp
      with_reducible rfl
     rotate_left
     ·simp only [Act.put, List.setIfInBounds_toArray, List.set_cons_zero, List.set_cons_succ, i64_w, i32_w]
      rfl
     refine pure_ (i := 14) (N := some 42) (v := ?_) (a' := ?_) #[true, true, true, true, true, true, true, true, true, true, true, true, true, true, true, false, false, false, false, false] rfl rfl (by kernel_rfl) (fun _ _ _ h => h) (Or.inl ⟨by rfl, ?_⟩) ?_ ?_
     rotate_left
     ·intro w'
      go_simp
      with_reducible rfl
     rotate_left
     ·simp only [Act.put, List.setIfInBounds_toArray, List.set_cons_zero, List.set_cons_succ, i64_w, i32_w]
      rfl
     refine one_ (i := 15) (N := some 43) #[true, true, true, true, true, true, true, true, true, true, true, true, true, true, true, true, false, false, false, false] rfl rfl (by kernel_rfl) (by decide) (fun K hK => ?_)
     refine value_ (w1 := w5) (v := .slice (some ⟨b i, 0, none⟩) n (cp i)) (by rfl) rfl (by go_simp) ?_
     refine hK.out _ _ hHeld (fun hHeld => ?_)
     clear hK K
     refine norm_ (a' := ?_) ?_ ?_
     rotate_left
     ·show Act.put _ (some 43) _ = _
      simp only [Act.put, List.setIfInBounds_toArray, List.set_cons_zero, List.set_cons_succ, i64_w, i32_w]
      rfl
     refine pure_ (i := 16) (N := some 44) (v := ?_) (a' := ?_) #[true, true, true, true, true, true, true, true, true, true, true, true, true, true, true, true, true, false, false, false] rfl rfl (by kernel_rfl) (fun _ _ _ h => h) (Or.inl ⟨by rfl, ?_⟩) ?_ ?_
     rotate_left
     ·intro w'
      go_simp
      with_reducible rfl
     rotate_left
     ·simp only [Act.put, List.setIfInBounds_toArray, List.set_cons_zero, List.set_cons_succ, i64_w, i32_w]
      rfl
     refine one_ (i := 17) (N := none) #[true, true, true, true, true, true, true, true, true, true, true, true, true, true, true, true, true, true, false, false] rfl rfl (by kernel_rfl) (by decide) (fun K hK => ?_)
     refine skip_ (w1 := ?_) (by rfl) rfl ?_ ?_
     rotate_left
     ·go_simp
      rfl
     refine hK.out _ _ ⟨(cset_other (by intro e; exact HNG.out (congrArg Addr.block e))).trans hp0, hst⟩ (fun hHeld => ?_)
     clear hK K
     refine pure_ (i := 18) (N := some 45) (v := ?_) (a' := ?_) #[true, true, true, true, true, true, true, true, true, true, true, true, true, true, true, true, true, true, true, false] rfl rfl (by kernel_rfl) (fun _ _ _ h => h) (Or.inl ⟨by rfl, ?_⟩) ?_ ?_
     rotate_left
     ·intro w'
      go_simp
      with_reducible rfl
     rotate_left
     ·simp only [Act.put, List.setIfInBounds_toArray, List.set_cons_zero, List.set_cons_succ, i64_w, i32_w]
      rfl
     refine last_ (i := 19) (N := none) #[true, true, true, true, true, true, true, true, true, true, true, true, true, true, true, true, true, true, true, true] rfl rfl (by kernel_rfl) (by decide) (fun K hK => ?_)
     refine skip_ (w1 := ?_) (by rfl) rfl ?_ ?_
     rotate_left
     ·go_simp
      rfl
     refine hK.out _ _ ?_
     clear hK K
     refine done_ (by kernel_rfl) ?_
     have HPV : Aside0 (((w5.setCell ⟨g, i, none⟩ (.slice (some ⟨b s, 0, none⟩) n (cp s))).setCell ⟨g, s, none⟩ (.slice (some ⟨b i, 0, none⟩) n (cp i))).cell? ⟨pv, 0, none⟩ = some (.int .i64 (i : Int))) := ⟨by
      rw [cset_other (by intro e; exact HNG.out (congrArg Addr.block e)), cset_other (by intro e; exact HNG.out (congrArg Addr.block e))]; exact HPV3.out⟩
     have HNB2 : Aside0 (∀ j, j < n → b (sw i s j) ≠ pv) := ⟨fun j hj => HNB.out _ (sw_lt HLT.out HSN.out hj)⟩
     have HNZ2 : Aside0 ((fun j => M (sw i s j)) i i ≠ 0) := ⟨by show M (sw i s i) i ≠ 0; rw [show sw i s i = s from by simp [sw]]; exact HNZ.out⟩
     have HR3 : Aside0 (dgo n q (i + 1) (el (fun j => M (sw i s j)) i last) ((fun j => M (sw i s j)) i i) (wrap64 (-turn)) = R) := HR2
     clear HR2 HNB HNZ HO3 HPV3 hp0 hgs hgi hgsf hgif hst hstf hHeld
     have HO2 := HSW
     clear HSW
     generalize (w5.setCell ⟨g, i, none⟩ (.slice (some ⟨b s, 0, none⟩) n (cp s))).setCell ⟨g, s, none⟩ (.slice (some ⟨b i, 0, none⟩) n (cp i)) = w6 at HO2 HPV ⊢
     generalize Value.bool (decide ((kp : Int) < 0)) = uu1
     generalize Value.bool (decide (0 < kp)) = uu2
     have ⟨b2, hb2⟩ : ∃ b2 : Nat → Nat, b2 = fun j => b (sw i s j) := ⟨_, rfl⟩
     have ⟨cp2, hcp2⟩ : ∃ cp2 : Nat → Nat, cp2 = fun j => cp (sw i s j) := ⟨_, rfl⟩
     have ⟨M2, hM2⟩ : ∃ M2 : Mat, M2 = fun j => M (sw i s j) := ⟨_, rfl⟩
     have HNB : Aside0 (∀ j, j < n → b2 j ≠ pv) := ⟨fun j hj => by rw [hb2]; exact HNB2.out j hj⟩
     rw [← hb2, ← hcp2, ← hM2] at HO2
     rw [← hM2] at HNZ2 HR3
     have HR2 := HR3
     clear HR3 HNB2 hb2 hcp2 hM2
     have HF := HNZ2
     clear HNZ2
     have hgi1 : IntKind.i64.wrap ((i : Int) + 1) = ((i + 1 : Nat) : Int) := by rw [IntWalk.i64_in _ (by have := HN.out; have := HLT.out; omega)]; rfl
     have HGI1 := Aside0.mk hgi1
     have hi1z : ((i + 1 : Nat) : Int) ≤ (n : Int) := by have := HLT.out; omega
     have h0z1 : (0 : Int) ≤ ((i + 1 : Nat) : Int) := by omega
     by_cases hcc : cap = i + 1
     ·have hp0 := HPV.out
      have hn1 : n = i + 1 := by have := HCAP.out; have := HLT.out; omega
      have h00 : ¬ (0 : Int) < ((n - (i + 1) : Nat) : Int) := by omega
      have HN1 := Aside0.mk hn1
      have hcct := eq_true hcc
      clear hn1 hcc
      go_wp2
      go_loopg [53] 1 (fun gg v53 w3 => v53 = .int .i64 0 ∧ Aside0 (Own w w3 g n b2 cp2 M2) ∧ Aside0 (w3.cell? ⟨pv, 0, none⟩ = some (.int .i64 (i : Int))))
      case atStart => exact ⟨rfl, HO2, HPV⟩
      case round =>
       clear HO2 HPV hp0
       obtain ⟨rfl, HO3, HPV3⟩ := hrel
       have HO4 := Aside0.mk (HO3.out.step (below_drew (Below.refl wr.heap.size wr)))
       have HPV4 : Aside0 (wr.drew.cell? ⟨pv, 0, none⟩ = some (.int .i64 (i : Int))) := ⟨HPV3.out⟩
       have hp3 := HPV4.out
       have hog := (HO4.out.og i HLT.out).1
       have hii := (HO4.out.ob i i HLT.out HLT.out).1
       go_wp2
       refine start_ (n := 8) (S := fun w' => w'.cell? ⟨pv, 0, none⟩ = some (.int .i64 (i : Int)) ∧ w'.cell? ⟨g, i, none⟩ = some (.slice (some ⟨b2 i, 0, none⟩) n (cp2 i)) ∧ w'.cell? ⟨b2 i, i, none⟩ = some (.int .i64 ((M2) i i))) (ds := []) #[false, false, false, false, false, false, false, false] (by kernel_rfl) rfl rfl ⟨hp3, hog, hii⟩ (fun hHeld => ?_)
       generalize wr.drew = w5 at HO4 HPV4 hp3 hog hii hHeld ⊢
       refine pure_ (i := 0) (N := some 96) (v := ?_) (a' := ?_) #[true, false, false, false, false, false, false, false] rfl rfl (by kernel_rfl) (fun _ _ _ h => h) (Or.inl ⟨by rfl, ?_⟩) ?_ ?_
       rotate_left
       ·intro w'
        go_simp
        with_reducible rfl
       rotate_left
       ·simp only [Act.put, List.setIfInBounds_toArray, List.set_cons_zero, List.set_cons_succ, i64_w, i32_w]
        rfl
       refine take_ (i := 1) (N := some 97) (v := ?_) (a' := ?_) #[true, true, false, false, false, false, false, false] rfl rfl (by kernel_rfl) (fun _ _ _ h => h) (Or.inl ⟨by rfl, ?_⟩) hHeld ?_ ?_
       rotate_left
       ·rintro w' ⟨s0, s1, s2⟩
        go_simp
        with_reducible rfl
       rotate_left
       ·simp only [Act.put, List.setIfInBounds_toArray, List.set_cons_zero, List.set_cons_succ, i64_w, i32_w]
        rfl
       refine pure_ (i := 2) (N := some 98) (v := ?_) (a' := ?_) #[true, true, true, false, false, false, false, false] rfl rfl (by kernel_rfl) (fun _ _ _ h => h) (Or.inl ⟨by rfl, ?_⟩) ?_ ?_
       rotate_left
       ·intro w'
        go_simp
        with_reducible rfl
       rotate_left
       ·simp only [Act.put, List.setIfInBounds_toArray, List.set_cons_zero, List.set_cons_succ, i64_w, i32_w]
        rfl
       refine take_ (i := 3) (N := some 99) (v := ?_) (a' := ?_) #[true, true, true, true, false, false, false, false] rfl rfl (by kernel_rfl) (fun _ _ _ h => h) (Or.inl ⟨by rfl, ?_⟩) hHeld ?_ ?_
       rotate_left
       ·rintro w' ⟨s0, s1, s2⟩
        go_simp
        with_reducible rfl
       rotate_left
       ·simp only [Act.put, List.setIfInBounds_toArray, List.set_cons_zero, List.set_cons_succ, i64_w, i32_w]
        rfl
       refine take_ (i := 4) (N := some 100) (v := ?_) (a' := ?_) #[true, true, true, true, true, false, false, false] rfl rfl (by kernel_rfl) (fun _ _ _ h => h) (Or.inl ⟨by rfl, ?_⟩) hHeld ?_ ?_
       rotate_left
       ·rintro w' ⟨s0, s1, s2⟩
        go_simp
        with_reducible rfl
       rotate_left
       ·simp only [Act.put, List.setIfInBounds_toArray, List.set_cons_zero, List.set_cons_succ, i64_w, i32_w]
        rfl
       refine pure_ (i := 5) (N := some 101) (v := ?_) (a' := ?_) #[true, true, true, true, true, true, false, false] rfl rfl (by kernel_rfl) (fun _ _ _ h => h) (Or.inl ⟨by rfl, ?_⟩) ?_ ?_
       rotate_left
       ·intro w'
        go_simp
        with_reducible rfl
       rotate_left
       ·simp only [Act.put, List.setIfInBounds_toArray, List.set_cons_zero, List.set_cons_succ, i64_w, i32_w]
        rfl
       refine take_ (i := 6) (N := some 102) (v := ?_) (a' := ?_) #[true, true, true, true, true, true, true, false] rfl rfl (by kernel_rfl) (fun _ _ _ h => h) (Or.inl ⟨by rfl, ?_⟩) hHeld ?_ ?_
       rotate_left
       ·rintro w' ⟨s0, s1, s2⟩
        go_simp
        with_reducible rfl
       rotate_left
       ·simp only [Act.put, List.setIfInBounds_toArray, List.set_cons_zero, List.set_cons_succ, i64_w, i32_w]
        rfl
       refine pure_ (i := 7) (N := some 4) (v := ?_) (a' := ?_) #[true, true, true, true, true, true, true, true] rfl rfl (by kernel_rfl) (fun _ _ _ h => h) (Or.inl ⟨by rfl, ?_⟩) ?_ ?_
       rotate_left
       ·intro w'
        go_simp
        with_reducible rfl
       rotate_left
       ·simp only [Act.put, List.setIfInBounds_toArray, List.set_cons_zero, List.set_cons_succ, i64_w, i32_w]
        rfl
       refine done_ (by kernel_rfl) ?_
       go_wp2
       go_roundg (n - (i + 1))
       case measure => have := HG.out; have := HLT.out; omega
       case rel => exact ⟨i + 1, el (M2) i last, b2, cp2, (M2) i i, wrap64 (-turn), by have := HLT.out; omega, by omega, rfl, rfl, by first | rfl | (rw [HGI1.out]), ⟨HO4.out.congr (fun a b ha _ => by unfold el; rw [if_neg (by have := HN1.out; omega)])⟩, HF, ⟨by rw [show n - (i + 1) = q from by have := HQ.out; omega]; exact HR2.out⟩⟩
     ·have hp0 := HPV.out
      go_wp2
      go_loopg [53] n (fun gg v53 w3 => ∃ t : Nat, i + 1 + t ≤ n ∧ n - (i + 1 + t) ≤ gg ∧ v53 = .int .i64 (t : Int) ∧ Aside0 (Own w w3 g n b2 cp2 (mid M2 i last (i + 1 + t) i)) ∧ Aside0 (w3.cell? ⟨pv, 0, none⟩ = some (.int .i64 (i : Int))))
      case atStart => exact ⟨0, by have := HLT.out; omega, by omega, by simp, ⟨HO2.out.congr (fun a b _ _ => (mid_start _ i last a b).symm)⟩, HPV⟩
      case round =>
       clear HO2 HPV hp0
       obtain ⟨t, ht, hg2, rfl, HO3, HPV3⟩ := hrel
       have HT := Aside0.mk ht
       have HG2 := Aside0.mk hg2
       by_cases htn : i + 1 + t < n
       ·have htz : (t : Int) < ((n - (i + 1) : Nat) : Int) := by omega
        have h0t : (0 : Int) ≤ (t : Int) := by omega
        have HTN := Aside0.mk htn
        have hog := (HO3.out.og (i + 1 + t) htn).1
        have hf0 := (HO3.out.ob (i + 1 + t) i htn HLT.out).1
        rw [mid_at _ i last (i + 1 + t) i i (Nat.le_refl _)] at hf0
        have hp3 := HPV3.out
        have ht1 : IntKind.i64.wrap ((t : Int) + 1) = ((t + 1 : Nat) : Int) := by rw [IntWalk.i64_in _ (by have := HN.out; omega)]; rfl
        have HT1 := Aside0.mk ht1
        generalize hr : i + 1 + t = r at *
        have HRE := Aside0.mk hr
        have htr : i + 1 + t = r := hr
        clear hr
        go_wp2
        go_loopg [11] n (fun gg v11 w4 => ∃ c' : Nat, i ≤ c' ∧ c' ≤ n ∧ n - c' ≤ gg ∧ v11 = .int .i64 (c' : Int) ∧ Aside0 (Own w w4 g n b2 cp2 (mid M2 i last r c')) ∧ Aside0 (w4.cell? ⟨pv, 0, none⟩ = some (.int .i64 (i : Int))))
        case atStart => exact ⟨i, Nat.le_refl _, HI.out, by omega, rfl, HO3, HPV3⟩
        case round =>
         clear HO3 HPV3 hp3 hog hf0
         obtain ⟨c', hc1, hc2, hg3, rfl, HO4, HPV4⟩ := hrel
         have HC1 := Aside0.mk hc1
         have HC2 := Aside0.mk hc2
         have HG3 := Aside0.mk hg3
         by_cases hcn : c' < n
         ·have hcz : (c' : Int) < (n : Int) := by omega
          have h0c : (0 : Int) ≤ (c' : Int) := by omega
          have HCN := Aside0.mk hcn
          have HO5 := Aside0.mk (HO4.out.step (below_drew (Below.refl wr.heap.size wr)))
          have HPV5 : Aside0 (wr.drew.cell? ⟨pv, 0, none⟩ = some (.int .i64 (i : Int))) := ⟨HPV4.out⟩
          have h1 := (HO5.out.ob r c' HTN.out hcn).1
          have h1f := (HO5.out.ob r c' HTN.out hcn).2
          have h2 := (HO5.out.og i HLT.out).1
          have h3 := (HO5.out.ob i i HLT.out HLT.out).1
          have h4 := (HO5.out.ob i c' HLT.out hcn).1
          rw [mid_at _ i last r c' c' (Nat.le_refl _)] at h1
          rw [mid_head] at h3 h4
          have hp4 := HPV5.out
          have hl0 : (last == 0) = false := by have := HL.out; simpa using this
          have hl1 : ¬ last = 0 := HL.out
          have hc11 : IntKind.i64.wrap ((c' : Int) + 1) = ((c' + 1 : Nat) : Int) := by rw [IntWalk.i64_in _ (by have := HN.out; omega)]; rfl
          have HC11 := Aside0.mk hc11
          clear hc1 hc2 hg3 hcn
          go_wp2
          refine start_ (n := 28) (S := fun w' => w'.cell? ⟨b2 r, c', none⟩ = some (.int .i64 ((M2) r c')) ∧ w'.cell? ⟨pv, 0, none⟩ = some (.int .i64 (i : Int)) ∧ w'.cell? ⟨g, i, none⟩ = some (.slice (some ⟨b2 i, 0, none⟩) n (cp2 i)) ∧ w'.cell? ⟨b2 i, i, none⟩ = some (.int .i64 ((M2) i i)) ∧ w'.cell? ⟨b2 i, c', none⟩ = some (.int .i64 ((M2) i c'))) (ds := [27]) #[false, false, false, false, false, false, false, false, false, false, false, false, false, false, false, false, false, false, false, false, false, false, false, false, false, false, false, false] (by kernel_rfl) rfl rfl ⟨h1, hp4, h2, h3, h4⟩ (fun hHeld => ?_)
          generalize wr.drew = w5 at HO5 HPV5 h1 hp4 h2 h3 h4 h1f hHeld ⊢
          refine pure_ (i := 0) (N := some 68) (v := ?_) (a' := ?_) #[true, false, false, false, false, false, false, false, false, false, false, false, false, false, false, false, false, false, false, false, false, false, false, false, false, false, false, false] rfl rfl (by kernel_rfl) (fun _ _ _ h => h) (Or.inl ⟨by rfl, ?_⟩) ?_ ?_
          rotate_left
          ·intro w'
           go_simp
           with_reducible rfl
          rotate_left
          ·simp only [Act.put, List.setIfInBounds_toArray, List.set_cons_zero, List.set_cons_succ, i64_w, i32_w]
           rfl
          refine pure_ (i := 1) (N := some 69) (v := ?_) (a' := ?_) #[true, true, false, false, false, false, false, false, false, false, false, false, false, false, false, false, false, false, false, false, false, false, false, false, false, false, false, false] rfl rfl (by kernel_rfl) (fun _ _ _ h => h) (Or.inl ⟨by rfl, ?_⟩) ?_ ?_
          rotate_left
          ·intro w'
           go_simp
           with_reducible rfl
          rotate_left
          ·simp only [Act.put, List.setIfInBounds_toArray, List.set_cons_zero, List.set_cons_succ, i64_w, i32_w]
           rfl
          refine pure_ (i := 2) (N := some 70) (v := ?_) (a' := ?_) #[true, true, true, false, false, false, false, false, false, false, false, false, false, false, false, false, false, false, false, false, false, false, false, false, false, false, false, false] rfl rfl (by kernel_rfl) (fun _ _ _ h => h) (Or.inl ⟨by rfl, ?_⟩) ?_ ?_
          rotate_left
          ·intro w'
           go_simp
           with_reducible rfl
          rotate_left
          ·simp only [Act.put, List.setIfInBounds_toArray, List.set_cons_zero, List.set_cons_succ, i64_w, i32_w]
           rfl
          refine pure_ (i := 3) (N := some 71) (v := ?_) (a' := ?_) #[true, true, true, true, false, false, false, false, false, false, false, false, false, false, false, false, false, false, false, false, false, false, false, false, false, false, false, false] rfl rfl (by kernel_rfl) (fun _ _ _ h => h) (Or.inl ⟨by rfl, ?_⟩) ?_ ?_
          rotate_left
          ·intro w'
           go_simp
           with_reducible rfl
          rotate_left
          ·simp only [Act.put, List.setIfInBounds_toArray, List.set_cons_zero, List.set_cons_succ, i64_w, i32_w]
           rfl
          refine pure_ (i := 4) (N := some 72) (v := ?_) (a' := ?_) #[true, true, true, true, true, false, false, false, false, false, false, false, false, false, false, false, false, false, false, false, false, false, false, false, false, false, false, false] rfl rfl (by kernel_rfl) (fun _ _ _ h => h) (Or.inl ⟨by rfl, ?_⟩) ?_ ?_
          rotate_left
          ·intro w'
           go_simp
           with_reducible rfl
          rotate_left
          ·simp only [Act.put, List.setIfInBounds_toArray, List.set_cons_zero, List.set_cons_succ, i64_w, i32_w]
           rfl
          refine take_ (i := 5) (N := some 73) (v := ?_) (a' := ?_) #[true, true, true, true, true, true, false, false, false, false, false, false, false, false, false, false, false, false, false, false, false, false, false, false, false, false, false, false] rfl rfl (by kernel_rfl) (fun _ _ _ h => h) (Or.inl ⟨by rfl, ?_⟩) hHeld ?_ ?_
          rotate_left
          ·rintro w' ⟨s0, s1, s2, s3, s4⟩
           go_simp
           with_reducible rfl
          rotate_left
          ·simp only [Act.put, List.setIfInBounds_toArray, List.set_cons_zero, List.set_cons_succ, i64_w, i32_w]
           rfl
          refine pure_ (i := 6) (N := some 74) (v := ?_) (a' := ?_) #[true, true, true, true, true, true, true, false, false, false, false, false, false, false, false, false, false, false, false, false, false, false, false, false, false, false, false, false] rfl rfl (by kernel_rfl) (fun _ _ _ h => h) (Or.inl ⟨by rfl, ?_⟩) ?_ ?_
          rotate_left
          ·intro w'
           go_simp
           with_reducible rfl
          rotate_left
          ·simp only [Act.put, List.setIfInBounds_toArray, List.set_cons_zero, List.set_cons_succ, i64_w, i32_w]
           rfl
          refine take_ (i := 7) (N := some 75) (v := ?_) (a' := ?_) #[true, true, true, true, true, true, true, true, false, false, false, false, false, false, false, false, false, false, false, false, false, false, false, false, false, false, false, false] rfl rfl (by kernel_rfl) (fun _ _ _ h => h) (Or.inl ⟨by rfl, ?_⟩) hHeld ?_ ?_
          rotate_left
          ·rintro w' ⟨s0, s1, s2, s3, s4⟩
           go_simp
           with_reducible rfl
          rotate_left
          ·simp only [Act.put, List.setIfInBounds_toArray, List.set_cons_zero, List.set_cons_succ, i64_w, i32_w]
           rfl
          refine pure_ (i := 8) (N := some 76) (v := ?_) (a' := ?_) #[true, true, true, true, true, true, true, true, true, false, false, false, false, false, false, false, false, false, false, false, false, false, false, false, false, false, false, false] rfl rfl (by kernel_rfl) (fun _ _ _ h => h) (Or.inl ⟨by rfl, ?_⟩) ?_ ?_
          rotate_left
          ·intro w'
           go_simp
           with_reducible rfl
          rotate_left
          ·simp only [Act.put, List.setIfInBounds_toArray, List.set_cons_zero, List.set_cons_succ, i64_w, i32_w]
           rfl
          refine take_ (i := 9) (N := some 77) (v := ?_) (a' := ?_) #[true, true, true, true, true, true, true, true, true, true, false, false, false, false, false, false, false, false, false, false, false, false, false, false, false, false, false, false] rfl rfl (by kernel_rfl) (fun _ _ _ h => h) (Or.inl ⟨by rfl, ?_⟩) hHeld ?_ ?_
          rotate_left
          ·rintro w' ⟨s0, s1, s2, s3, s4⟩
           go_simp
           with_reducible rfl
          rotate_left
          ·simp only [Act.put, List.setIfInBounds_toArray, List.set_cons_zero, List.set_cons_succ, i64_w, i32_w]
           rfl
          refine take_ (i := 10) (N := some 78) (v := ?_) (a' := ?_) #[true, true, true, true, true, true, true, true, true, true, true, false, false, false, false, false, false, false, false, false, false, false, false, false, false, false, false, false] rfl rfl (by kernel_rfl) (fun _ _ _ h => h) (Or.inl ⟨by rfl, ?_⟩) hHeld ?_ ?_
          rotate_left
          ·rintro w' ⟨s0, s1, s2, s3, s4⟩
           go_simp
           with_reducible rfl
          rotate_left
          ·simp only [Act.put, List.setIfInBounds_toArray, List.set_cons_zero, List.set_cons_succ, i64_w, i32_w]
           rfl
          refine pure_ (i := 11) (N := some 79) (v := ?_) (a' := ?_) #[true, true, true, true, true, true, true, true, true, true, true, true, false, false, false, false, false, false, false, false, false, false, false, false, false, false, false, false] rfl rfl (by kernel_rfl) (fun _ _ _ h => h) (Or.inl ⟨by rfl, ?_⟩) ?_ ?_
          rotate_left
          ·intro w'
           go_simp
           with_reducible rfl
          rotate_left
          ·simp only [Act.put, List.setIfInBounds_toArray, List.set_cons_zero, List.set_cons_succ, i64_w, i32_w]
           rfl
          refine take_ (i := 12) (N := some 80) (v := ?_) (a' := ?_) #[true, true, true, true, true, true, true, true, true, true, true, true, true, false, false, false, false, false, false, false, false, false, false, false, false, false, false, false] rfl rfl (by kernel_rfl) (fun _ _ _ h => h) (Or.inl ⟨by rfl, ?_⟩) hHeld ?_ ?_
          rotate_left
          ·rintro w' ⟨s0, s1, s2, s3, s4⟩
           go_simp
           with_reducible rfl
          rotate_left
          ·simp only [Act.put, List.setIfInBounds_toArray, List.set_cons_zero, List.set_cons_succ, i64_w, i32_w]
           rfl
          refine pure_ (i := 13) (N := some 81) (v := ?_) (a' := ?_) #[true, true, true, true, true, true, true, true, true, true, true, true, true, true, false, false, false, false, false, false, false, false, false, false, false, false, false, false] rfl rfl (by kernel_rfl) (fun _ _ _ h => h) (Or.inl ⟨by rfl, ?_⟩) ?_ ?_
          rotate_left
          ·intro w'
           go_simp
           with_reducible rfl
          rotate_left
          ·simp only [Act.put, List.setIfInBounds_toArray, List.set_cons_zero, List.set_cons_succ, i64_w, i32_w]
           rfl
          refine pure_ (i := 14) (N := some 82) (v := ?_) (a' := ?_) #[true, true, true, true, true, true, true, true, true, true, true, true, true, true, true, false, false, false, false, false, false, false, false, false, false, false, false, false] rfl rfl (by kernel_rfl) (fun _ _ _ h => h) (Or.inl ⟨by rfl, ?_⟩) ?_ ?_
          rotate_left
          ·intro w'
           go_simp
           with_reducible rfl
          rotate_left
          ·simp only [Act.put, List.setIfInBounds_toArray, List.set_cons_zero, List.set_cons_succ, i64_w, i32_w]
           rfl
          refine pure_ (i := 15) (N := some 83) (v := ?_) (a' := ?_) #[true, true, true, true, true, true, true, true, true, true, true, true, true, true, true, true, false, false, false, false, false, false, false, false, false, false, false, false] rfl rfl (by kernel_rfl) (fun _ _ _ h => h) (Or.inl ⟨by rfl, ?_⟩) ?_ ?_
          rotate_left
          ·intro w'
           go_simp
           with_reducible rfl
          rotate_left
          ·simp only [Act.put, List.setIfInBounds_toArray, List.set_cons_zero, List.set_cons_succ, i64_w, i32_w]
           rfl
          refine take_ (i := 16) (N := some 84) (v := ?_) (a' := ?_) #[true, true, true, true, true, true, true, true, true, true, true, true, true, true, true, true, true, false, false, false, false, false, false, false, false, false, false, false] rfl rfl (by kernel_rfl) (fun _ _ _ h => h) (Or.inl ⟨by rfl, ?_⟩) hHeld ?_ ?_
          rotate_left
          ·rintro w' ⟨s0, s1, s2, s3, s4⟩
           go_simp
           with_reducible rfl
          rotate_left
          ·simp only [Act.put, List.setIfInBounds_toArray, List.set_cons_zero, List.set_cons_succ, i64_w, i32_w]
           rfl
          refine pure_ (i := 17) (N := some 85) (v := ?_) (a' := ?_) #[true, true, true, true, true, true, true, true, true, true, true, true, true, true, true, true, true, true, false, false, false, false, false, false, false, false, false, false] rfl rfl (by kernel_rfl) (fun _ _ _ h => h) (Or.inl ⟨by rfl, ?_⟩) ?_ ?_
          rotate_left
          ·intro w'
           go_simp
           with_reducible rfl
          rotate_left
          ·simp only [Act.put, List.setIfInBounds_toArray, List.set_cons_zero, List.set_cons_succ, i64_w, i32_w]
           rfl
          refine take_ (i := 18) (N := some 86) (v := ?_) (a' := ?_) #[true, true, true, true, true, true, true, true, true, true, true, true, true, true, true, true, true, true, true, false, false, false, false, false, false, false, false, false] rfl rfl (by kernel_rfl) (fun _ _ _ h => h) (Or.inl ⟨by rfl, ?_⟩) hHeld ?_ ?_
          rotate_left
          ·rintro w' ⟨s0, s1, s2, s3, s4⟩
           go_simp
           with_reducible rfl
          rotate_left
          ·simp only [Act.put, List.setIfInBounds_toArray, List.set_cons_zero, List.set_cons_succ, i64_w, i32_w]
           rfl
          refine pure_ (i := 19) (N := some 87) (v := ?_) (a' := ?_) #[true, true, true, true, true, true, true, true, true, true, true, true, true, true, true, true, true, true, true, true, false, false, false, false, false, false, false, false] rfl rfl (by kernel_rfl) (fun _ _ _ h => h) (Or.inl ⟨by rfl, ?_⟩) ?_ ?_
          rotate_left
          ·intro w'
           go_simp
           with_reducible rfl
          rotate_left
          ·simp only [Act.put, List.setIfInBounds_toArray, List.set_cons_zero, List.set_cons_succ, i64_w, i32_w]
           rfl
          refine pure_ (i := 20) (N := some 88) (v := ?_) (a' := ?_) #[true, true, true, true, true, true, true, true, true, true, true, true, true, true, true, true, true, true, true, true, true, false, false, false, false, false, false, false] rfl rfl (by kernel_rfl) (fun _ _ _ h => h) (Or.inl ⟨by rfl, ?_⟩) ?_ ?_
          rotate_left
          ·intro w'
           go_simp
           with_reducible rfl
          rotate_left
          ·simp only [Act.put, List.setIfInBounds_toArray, List.set_cons_zero, List.set_cons_succ, i64_w, i32_w]
           rfl
          refine take_ (i := 21) (N := some 89) (v := ?_) (a' := ?_) #[true, true, true, true, true, true, true, true, true, true, true, true, true, true, true, true, true, true, true, true, true, true, false, false, false, false, false, false] rfl rfl (by kernel_rfl) (fun _ _ _ h => h) (Or.inl ⟨by rfl, ?_⟩) hHeld ?_ ?_
          rotate_left
          ·rintro w' ⟨s0, s1, s2, s3, s4⟩
           go_simp
           with_reducible rfl
          rotate_left
          ·simp only [Act.put, List.setIfInBounds_toArray, List.set_cons_zero, List.set_cons_succ, i64_w, i32_w]
           rfl
          refine pure_ (i := 22) (N := some 90) (v := ?_) (a' := ?_) #[true, true, true, true, true, true, true, true, true, true, true, true, true, true, true, true, true, true, true, true, true, true, true, false, false, false, false, false] rfl rfl (by kernel_rfl) (fun _ _ _ h => h) (Or.inl ⟨by rfl, ?_⟩) ?_ ?_
          rotate_left
          ·intro w'
           go_simp
           with_reducible rfl
          rotate_left
          ·simp only [Act.put, List.setIfInBounds_toArray, List.set_cons_zero, List.set_cons_succ, i64_w, i32_w]
           rfl
          refine pure_ (i := 23) (N := some 91) (v := ?_) (a' := ?_) #[true, true, true, true, true, true, true, true, true, true, true, true, true, true, true, true, true, true, true, true, true, true, true, true, false, false, false, false] rfl rfl (by kernel_rfl) (fun _ _ _ h => h) (Or.inl ⟨by rfl, ?_⟩) ?_ ?_
          rotate_left
          ·intro w'
           go_simp
           with_reducible rfl
          rotate_left
          ·simp only [Act.put, List.setIfInBounds_toArray, List.set_cons_zero, List.set_cons_succ, i64_w, i32_w]
           rfl
          refine pure_ (i := 24) (N := some 92) (v := ?_) (a' := ?_) #[true, true, true, true, true, true, true, true, true, true, true, true, true, true, true, true, true, true, true, true, true, true, true, true, true, false, false, false] rfl rfl (by kernel_rfl) (fun _ _ _ h => h) (Or.inl ⟨by rfl, ?_⟩) ?_ ?_
          rotate_left
          ·intro w'
           go_simp
           with_reducible rfl
          rotate_left
          ·simp only [Act.put, List.setIfInBounds_toArray, List.set_cons_zero, List.set_cons_succ, i64_w, i32_w]
           rfl
          refine pure_ (i := 25) (N := some 93) (v := ?_) (a' := ?_) #[true, true, true, true, true, true, true, true, true, true, true, true, true, true, true, true, true, true, true, true, true, true, true, true, true, true, false, false] rfl rfl (by kernel_rfl) (fun _ _ _ h => h) (Or.inl ⟨by rfl, ?_⟩) ?_ ?_
          rotate_left
          ·intro w'
           go_simp
           with_reducible rfl
          rotate_left
          ·simp only [Act.put, List.setIfInBounds_toArray, List.set_cons_zero, List.set_cons_succ, i64_w, i32_w]
           rfl
          refine pure_ (i := 26) (N := some 94) (v := ?_) (a' := ?_) #[true, true, true, true, true, true, true, true, true, true, true, true, true, true, true, true, true, true, true, true, true, true, true, true, true, true, true, false] rfl rfl (by kernel_rfl) (fun _ _ _ h => h) (Or.inl ⟨by rfl, ?_⟩) ?_ ?_
          rotate_left
          ·intro w'
           go_simp
           with_reducible rfl
          rotate_left
          ·simp only [Act.put, List.setIfInBounds_toArray, List.set_cons_zero, List.set_cons_succ, i64_w, i32_w]
           rfl
          refine last_ (i := 27) (N := none) #[true, true, true, true, true, true, true, true, true, true, true, true, true, true, true, true, true, true, true, true, true, true, true, true, true, true, true, true] rfl rfl (by kernel_rfl) (by decide) (fun K hK => ?_)
          refine skip_ (w1 := ?_) (by rfl) rfl ?_ ?_
          rotate_left
          ·go_simp
           rfl
          refine hK.out _ _ ?_
          clear hK K
          refine done_ (by kernel_rfl) ?_
          go_wp2
          go_roundg (n - (c' + 1))
          case measure => have := HG3.out; have := HCN.out; omega
          case rel =>
           have hput := (HO5.out.put HTN.out HCN.out (ev M2 i last r c')).congr (M' := mid M2 i last r (c' + 1)) (fun a b _ _ => mid_next _ i last r c' (by have := HRE.out; omega) HC1.out a b)
           refine ⟨c' + 1, by have := HC1.out; omega, HCN.out, by omega, by first | rfl | (rw [HC11.out]) | (simp [HC11.out]), ⟨hput⟩, ⟨?_⟩⟩
           rw [cset_other (by intro e; exact HNB.out r HTN.out (congrArg Addr.block e))]
           exact HPV5.out
         ·have hcz : ¬ (c' : Int) < (n : Int) := by omega
          obtain rfl : c' = n := by have := HC2.out; omega
          clear hcn hc1 hc2 hg3
          go_wp2
          go_roundg (c' - (r + 1))
          case measure => have := HG2.out; have := HTN.out; omega
          case rel => exact ⟨t + 1, by have := HTN.out; have := HRE.out; omega, by have := HRE.out; omega, by first | rfl | (rw [HT1.out]) | (simp [HT1.out]), ⟨HO4.out.congr (fun a b _ hb => by rw [mid_row _ i last r a b hb, show i + 1 + (t + 1) = r + 1 from by have := HRE.out; omega])⟩, HPV4⟩
       ·have htz : ¬ (t : Int) < ((n - (i + 1) : Nat) : Int) := by omega
        have hn1 : i + 1 + t = n := by omega
        rw [hn1] at HO3
        have HO4 := Aside0.mk (HO3.out.step (below_drew (Below.refl wr.heap.size wr)))
        have HPV4 : Aside0 (wr.drew.cell? ⟨pv, 0, none⟩ = some (.int .i64 (i : Int))) := ⟨HPV3.out⟩
        have hp3 := HPV4.out
        have hog := (HO4.out.og i HLT.out).1
        have hii := (HO4.out.ob i i HLT.out HLT.out).1
        rw [mid_head] at hii
        clear hn1 htn ht hg2
        go_wp2
        refine start_ (n := 8) (S := fun w' => w'.cell? ⟨pv, 0, none⟩ = some (.int .i64 (i : Int)) ∧ w'.cell? ⟨g, i, none⟩ = some (.slice (some ⟨b2 i, 0, none⟩) n (cp2 i)) ∧ w'.cell? ⟨b2 i, i, none⟩ = some (.int .i64 ((M2) i i))) (ds := []) #[false, false, false, false, false, false, false, false] (by kernel_rfl) rfl rfl ⟨hp3, hog, hii⟩ (fun hHeld => ?_)
        generalize wr.drew = w5 at HO4 HPV4 hp3 hog hii hHeld ⊢
        refine pure_ (i := 0) (N := some 96) (v := ?_) (a' := ?_) #[true, false, false, false, false, false, false, false] rfl rfl (by kernel_rfl) (fun _ _ _ h => h) (Or.inl ⟨by rfl, ?_⟩) ?_ ?_
        rotate_left
        ·intro w'
         go_simp
         with_reducible rfl
        rotate_left
        ·simp only [Act.put, List.setIfInBounds_toArray, List.set_cons_zero, List.set_cons_succ, i64_w, i32_w]
         rfl
        refine take_ (i := 1) (N := some 97) (v := ?_) (a' := ?_) #[true, true, false, false, false, false, false, false] rfl rfl (by kernel_rfl) (fun _ _ _ h => h) (Or.inl ⟨by rfl, ?_⟩) hHeld ?_ ?_
        rotate_left
        ·rintro w' ⟨s0, s1, s2⟩
         go_simp
         with_reducible rfl
        rotate_left
        ·simp only [Act.put, List.setIfInBounds_toArray, List.set_cons_zero, List.set_cons_succ, i64_w, i32_w]
         rfl
        refine pure_ (i := 2) (N := some 98) (v := ?_) (a' := ?_) #[true, true, true, false, false, false, false, false] rfl rfl (by kernel_rfl) (fun _ _ _ h => h) (Or.inl ⟨by rfl, ?_⟩) ?_ ?_
        rotate_left
        ·intro w'
         go_simp
         with_reducible rfl
        rotate_left
        ·simp only [Act.put, List.setIfInBounds_toArray, List.set_cons_zero, List.set_cons_succ, i64_w, i32_w]
         rfl
        refine take_ (i := 3) (N := some 99) (v := ?_) (a' := ?_) #[true, true, true, true, false, false, false, false] rfl rfl (by kernel_rfl) (fun _ _ _ h => h) (Or.inl ⟨by rfl, ?_⟩) hHeld ?_ ?_
        rotate_left
        ·rintro w' ⟨s0, s1, s2⟩
         go_simp
         with_reducible rfl
        rotate_left
        ·simp only [Act.put, List.setIfInBounds_toArray, List.set_cons_zero, List.set_cons_succ, i64_w, i32_w]
         rfl
        refine take_ (i := 4) (N := some 100) (v := ?_) (a' := ?_) #[true, true, true, true, true, false, false, false] rfl rfl (by kernel_rfl) (fun _ _ _ h => h) (Or.inl ⟨by rfl, ?_⟩) hHeld ?_ ?_
        rotate_left
        ·rintro w' ⟨s0, s1, s2⟩
         go_simp
         with_reducible rfl
        rotate_left
        ·simp only [Act.put, List.setIfInBounds_toArray, List.set_cons_zero, List.set_cons_succ, i64_w, i32_w]
         rfl
        refine pure_ (i := 5) (N := some 101) (v := ?_) (a' := ?_) #[true, true, true, true, true, true, false, false] rfl rfl (by kernel_rfl) (fun _ _ _ h => h) (Or.inl ⟨by rfl, ?_⟩) ?_ ?_
        rotate_left
        ·intro w'
         go_simp
         with_reducible rfl
        rotate_left
        ·simp only [Act.put, List.setIfInBounds_toArray, List.set_cons_zero, List.set_cons_succ, i64_w, i32_w]
         rfl
        refine take_ (i := 6) (N := some 102) (v := ?_) (a' := ?_) #[true, true, true, true, true, true, true, false] rfl rfl (by kernel_rfl) (fun _ _ _ h => h) (Or.inl ⟨by rfl, ?_⟩) hHeld ?_ ?_
        rotate_left
        ·rintro w' ⟨s0, s1, s2⟩
         go_simp
         with_reducible rfl
        rotate_left
        ·simp only [Act.put, List.setIfInBounds_toArray, List.set_cons_zero, List.set_cons_succ, i64_w, i32_w]
         rfl
        refine pure_ (i := 7) (N := some 4) (v := ?_) (a' := ?_) #[true, true, true, true, true, true, true, true] rfl rfl (by kernel_rfl) (fun _ _ _ h => h) (Or.inl ⟨by rfl, ?_⟩) ?_ ?_
        rotate_left
        ·intro w'
         go_simp
         with_reducible rfl
        rotate_left
        ·simp only [Act.put, List.setIfInBounds_toArray, List.set_cons_zero, List.set_cons_succ, i64_w, i32_w]
         rfl
        refine done_ (by kernel_rfl) ?_
        go_wp2
        go_roundg (n - (i + 1))
        case measure => have := HG.out; have := HLT.out; omega
        case rel => exact ⟨i + 1, el (M2) i last, b2, cp2, (M2) i i, wrap64 (-turn), by have := HLT.out; omega, by omega, rfl, rfl, by first | rfl | (rw [HGI1.out]), ⟨HO4.out.congr (fun a b ha _ => mid_end _ i last a b ha)⟩, HF, ⟨by rw [show n - (i + 1) = q from by have := HQ.out; omega]; exact HR2.out⟩⟩
  ·obtain rfl : i = n := by omega
   have hltz : ¬ (i : Int) < (i : Int) := by omega
   rw [Nat.sub_self] at HR
   go_wp2
   go_ret
   exact ⟨by rw [← HR.out]; rfl, HO.out.below⟩
def impl_determinant.f (l0 : List (List Int)) : Option Int := if l0.length ≤ 1000 ∧ ∀ x ∈ l0, x.length = l0.length then some (dgo l0.length l0.length 0 (en l0) 1 1) else none
theorem det_none (A : Option Addr) (c : Nat) (w : World) (hr : Kd.C (Kd.slice 2 (Kd.int .i64)) w A 0 []) :
  Calls Try.prog 143 #[.slice A 0 c] w fun e w' => e = .returned (.int .i64 1) ∧ Below w.heap.size w w' := by
 obtain ⟨k, hk⟩ := evk (copy_eq [] (by decide) (fun x hx => by cases hx))
 have hcopy := fun W (hW : Below w.heap.size w W) => impl_copyRows.calls k A c [] [] W (Kd.C_below hr hW) (Nat.zero_le _) hk
 have HCOPY := Aside0.mk hcopy
 clear hcopy hk hr
 go_enter Try.func143, Try.ntmps143
 go_wp2_with fail
 refine (HCOPY.out _ (Below.refl _ _)).mono ?_
 rintro e w1 ⟨v0, rfl, hS, hB⟩
 obtain ⟨A1, c1, rfl⟩ := Kd.S_slice hS
 have HB := Aside0.mk hB
 clear HCOPY hS hB
 go_wp2
 go_loopg [4, 5, 16] 1 (fun gg v4 v5 v16 wr => v4 = .int .i64 1 ∧ v5 = .int .i64 1 ∧ v16 = .int .i64 0 ∧ Aside0 (Below w.heap.size w wr))
 case atStart => exact ⟨rfl, rfl, rfl, HB⟩
 case round =>
  obtain ⟨rfl, rfl, rfl, HB2⟩ := hrel
  go_wp2
  go_ret
  exact ⟨by rfl, HB2.out⟩
theorem impl_determinant.calls (A0 : Option Addr) (c0 : Nat) (l0 : List (List Int)) (r : Int) (w : World) (hr0 : Kd.C (Kd.slice 2 (Kd.int .i64)) w A0 l0.length l0) (hc0 : l0.length ≤ c0) (h : impl_determinant.f l0 = some r) :
  Calls Try.prog 143 #[.slice A0 l0.length c0] w fun e w' => e = .returned (.int .i64 r) ∧ Below w.heap.size w w' := by
 unfold impl_determinant.f at h
 split at h
 case isFalse => cases h
 rename_i hc
 have h := Option.some.inj h
 by_cases hp : 0 < l0.length
 ·exact det_calls l0.length r A0 c0 l0 w hr0 hc0 rfl hp hc.1 hc.2 h
 ·have e : l0 = [] := List.eq_nil_of_length_eq_zero (by omega)
  subst e
  have e1 : r = 1 := by rw [← h]; show wrap64 (1 * 1) = 1; exact w64 (by omega) (by omega)
  subst e1
  exact det_none A0 c0 w hr0
end Go.Proofs.Ythdoilfjcgickaa.Pr
end
section
namespace Go.Proofs.Ythdoilfjcgickaa.Hd
open Go.RowKit Go.Proofs.YthdoilfjcgickaaW.PrintWords Go.Proofs.YthdoilfjcgickaaW.PrintLast Go.Proofs.YthdoilfjcgickaaW.PrintMore Go.Proofs.Ythdoilfjcgickaa.Pr Go.Proofs.Ythdoilfjcgickaa.La Go.Proofs.Ythdoilfjcgickaa.Ma Go.Proofs.Ythdoilfjcgickaa.Hm Go.Proofs.Ythdoilfjcgickaa.Dt Go.Proofs.Ythdoilfjcgickaa.Bd Go.Proofs.Ythdoilfjcgickaa.Cp
def dO (n : Nat) (M : Mat) : Int := dgo n n 0 (en (rowsFrom M n 0)) 1 1
theorem rowsFrom_rows (M : Mat) (n i : Nat) : ∀ x ∈ rowsFrom M n i, x.length = n := by
 intro x hx
 obtain ⟨r, _, rfl⟩ := List.mem_map.1 hx
 simp
section
variable {w0 w w1 : World} {g n cap : Nat} {b cp : Nat → Nat} {M : Mat}
theorem Own.low (h : Own w1 w g n b cp M) (hB : Below w0.heap.size w0 w1) : Own w0 w g n b cp M :=
 ⟨Below.trans hB (h.below.mono hB.size), Nat.le_trans hB.size h.gb, fun j hj => Nat.le_trans hB.size (h.bb j hj), h.inj, h.ne, h.cap, h.og, h.ob⟩
theorem Own.far (h : Own w0 w g n b cp M) {p : Addr} (hp : w0.heap.size ≤ p.block) (h1 : p.block ≠ g) (h2 : ∀ j, j < n → b j ≠ p.block) (v : Value) : Own w0 (w.setCell p v) g n b cp M :=
  ⟨h.below.setCell hp v, h.gb, h.bb, h.inj, h.ne, h.cap,
   fun j hj => ⟨by rw [cset_other (by intro e; exact h1 (congrArg Addr.block e))]; exact (h.og j hj).1, by rw [fset]; exact (h.og j hj).2⟩,
   fun j c hj hc => ⟨by rw [cset_other (by intro e; exact h2 j hj (congrArg Addr.block e).symm)]; exact (h.ob j c hj hc).1, by rw [fset]; exact (h.ob j c hj hc).2⟩⟩
theorem det_own (h : Own w0 w g n b cp M) (hcap : n ≤ cap) (hp : 0 < n) (hn : n ≤ 1000) :
  Calls Try.prog 143 #[.slice (some ⟨g, 0, none⟩) n cap] w fun e w' => e = .returned (.int .i64 (dO n M)) ∧ Below w.heap.size w w' :=
 det_calls n (dO n M) (some ⟨g, 0, none⟩) cap (rowsFrom M n 0) w (h.C 0 (by omega)) (by rw [rowsFrom_len]; omega) (by rw [rowsFrom_len]; omega) hp hn (fun x hx => by rw [rowsFrom_rows M n 0 x hx, rowsFrom_len]; omega) rfl
theorem copy_own (h : Own w0 w g n b cp M) (hcap : n ≤ cap) (hp : 0 < n) (hn : n ≤ 1000) :
  Calls Try.prog 134 #[.slice (some ⟨g, 0, none⟩) n cap] w fun e w' => ∃ (g2 cap2 : Nat) (b2 cp2 : Nat → Nat), e = .returned (.slice (some ⟨g2, 0, none⟩) n cap2) ∧ n ≤ cap2 ∧ Own w w' g2 n b2 cp2 (en (rowsFrom M n 0)) := by
 have hl : (rowsFrom M n 0).length = n := by rw [rowsFrom_len]; omega
 obtain ⟨k, hk⟩ := evk (copy_eq (rowsFrom M n 0) (by omega) (fun x hx => by rw [rowsFrom_rows M n 0 x hx]; omega))
 have hc := impl_copyRows.calls k (some ⟨g, 0, none⟩) cap (rowsFrom M n 0) (rowsFrom M n 0) w (h.C 0 (by omega)) (by omega) hk
 rw [hl] at hc
 refine hc.mono ?_
 rintro e w' ⟨v, rfl, hS, hB⟩
 obtain ⟨g2, cap2, b2, cp2, rfl, h1, h2⟩ := own_of_S (w0 := w) hS hB (by omega) (fun x hx => by rw [rowsFrom_rows M n 0 x hx, hl])
 rw [hl] at h1 h2 ⊢
 exact ⟨g2, cap2, b2, cp2, rfl, h1, h2⟩
end
def sl (n : Nat) (C : Mat) (right : List Int) (sg : Int) (i : Nat) : Int := wrap64 (sg * dO n (pcol (en (rowsFrom C n 0)) i right n))
def slL (n : Nat) (C : Mat) (right : List Int) (sg : Int) (i : Nat) : List Int := (List.range n).map fun u => if u < i then sl n C right sg u else 0
theorem slL_zero (n : Nat) (C : Mat) (right : List Int) (sg : Int) : List.replicate n (0 : Int) = slL n C right sg 0 := by
 apply List.ext_getElem
 ·simp [slL]
 ·intro k h1 h2; simp [slL]
theorem slL_next (n : Nat) (C : Mat) (right : List Int) (sg : Int) (i : Nat) (h : i < n) : (slL n C right sg i).set i (sl n C right sg i) = slL n C right sg (i + 1) := by
 apply List.ext_getElem
 ·simp [slL]
 ·intro k h1 h2
  have hk : k < n := by simpa [slL] using h2
  rw [List.getElem_set]
  simp only [slL, List.getElem_map, List.getElem_range]
  by_cases e : i = k
  ·subst e; rw [if_pos rfl, if_pos (by omega)]
  ·rw [if_neg e]
   by_cases c : k < i
   ·rw [if_pos c, if_pos (by omega)]
   ·rw [if_neg c, if_neg (by omega)]
theorem solve_calls (k n : Nat) (s D sg sz : Int) (cl : Nat → List Int) (A0 : Option Addr) (c0 : Nat) (M : List (List Int)) (A1 : Option Addr) (c1 : Nat) (Q : List Int) (A2 : Option Addr) (c2 : Nat) (right : List Int) (w : World) (hr0 : Kd.C (Kd.slice 2 (Kd.int .i64)) w A0 M.length M) (hc0 : M.length ≤ c0) (hr1 : Kd.C (Kd.int .i64) w A1 Q.length Q) (hc1 : Q.length ≤ c1) (hr2 : Kd.C (Kd.int .i64) w A2 right.length right) (hc2 : right.length ≤ c2) (hQ : Q.length = n) (hright : right.length = n) (hp : 0 < n) (hn : n ≤ 1000)
  (hcl : ∀ i, i < n → ∃ t, impl_has.f s (i : Int) = some t ∧ impl_Problem_column.f k M Q (i : Int) t = some (cl i) ∧ (cl i).length = n)
  (hD : dO n (cM cl n) = D) (hsg : impl_sign.f D = some sg) (hsz : impl_size.f D = some sz) :
  Calls Try.prog 107 #[.agg #[.slice A0 M.length c0, .slice A1 Q.length c1], .int .i64 s, .slice A2 right.length c2] w fun e w' => ∃ v0_ : Value, e = .returned (if D = 0 then .tuple #[v0_, .int .i64 0, .bool false] else .tuple #[v0_, .int .i64 sz, .bool true]) ∧ Kd.R (Kd.int .i64) 2 w' w.heap.size (fun _ => True) v0_ (if D = 0 then [] else slL n (cM cl n) right sg n) ∧ Below w.heap.size w w' := by
 have HR0 := Aside0.mk hr0
 have HC0 := Aside0.mk hc0
 have HR1 := Aside0.mk hr1
 have HC1 := Aside0.mk hc1
 have HR2 := Aside0.mk hr2
 have HC2 := Aside0.mk hc2
 have HQ := Aside0.mk hQ
 have HRI := Aside0.mk hright
 have HP := Aside0.mk hp
 have HN := Aside0.mk hn
 have HCL := Aside0.mk hcl
 have HD := Aside0.mk hD
 have HSG := Aside0.mk hsg
 have HSZ := Aside0.mk hsz
 have HB := Aside0.mk (Below.refl w.heap.size w)
 clear hr0 hc0 hr1 hc1 hr2 hc2 hp hn hcl hD hsg hsz hQ
 rw [hright]
 clear hright
 have hn0 : (0 : Int) ≤ (n : Int) := by omega
 go_enter Try.func107, Try.ntmps107
 go_wp2_with (first | ((with_reducible refine gate_dst (N := 3) rfl ?_); refine box_event ?hg (N := 3) ?hd (cs := #[.slice A0 M.length c0, .slice A1 Q.length c1]) (t := 29) ?hr ?_; (case hd => rfl); (case hg => rfl); (case hr => first | (go_simp; done) | (go_simp; rfl)); intro gb hg w6 hbox hb; have n0_ := Aside0.mk (below_step HB.out hb); have n1_ := Aside0.mk hbox; clear HB; have HB := n0_; have BK := n1_; clear n0_ n1_; clear hb hbox hg; have hcz0 : w6.cell? ⟨gb, 0, none⟩ = some (.slice A0 M.length c0) := (blk_cell BK.out 0).trans rfl; have hcz1 : w6.cell? ⟨gb, 1, none⟩ = some (.slice A1 Q.length c1) := (blk_cell BK.out 1).trans rfl))
 refine (columns_calls k n s cl A0 c0 M A1 c1 Q w6 (Kd.C_below HR0.out HB.out) HC0.out (Kd.C_below HR1.out HB.out) HC1.out HQ.out HP.out HN.out HCL.out).mono ?_
 rintro e w7 ⟨g, cap, b, cp, rfl, hcap, hO⟩
 have n0_ := Aside0.mk (hO.low HB.out)
 have HCAP := Aside0.mk hcap
 clear hcz0 hcz1 BK HB hO hcap
 have HO := n0_
 clear n0_
 go_wp2_with fail
 refine (det_own HO.out HCAP.out HP.out HN.out).mono ?_
 rintro e w8 ⟨rfl, hb⟩
 rw [HD.out]
 have n0_ := Aside0.mk (HO.out.step hb)
 clear HO hb
 have HO := n0_
 clear n0_
 by_cases d0 : D = 0
 ·subst d0
  go_wp2
  refine bodyPost_ret (results_list (rs := [.tmp 6, .tmp 7, .tmp 8]) rfl (by simp) (.tmp (.tmp (.tmp .nil)))) rfl ?_
  exact ⟨_, rfl, Kd.R_nil _ _ _ _ _, HO.out.below⟩
 ·have hd0 : (D == 0) = false := by simpa using d0
  have D0 := Aside0.mk d0
  go_wp2_with (first | ((with_reducible refine gate_dst (N := 23) rfl ?_); refine Kd.R_make (w0 := w8) (Kd.int .i64) w8.heap.size 2 rfl (N := 23) rfl 23 _ _ rfl (n : Int) rfl rfl Try.underlying23 (.int .i64 0) 8 info2 rfl (by decide) (by decide) 0 (ok := fun _ => True) (okp := fun _ => True) rfl (fun _ hk => hk) trivial hn0 (by have := HN.out; omega) (Below.refl _ _) (Nat.le_refl _) ?_; intro v23 w9 ho hb hg2 hat; obtain ⟨go, co, rfl, hgo1, hgo2, cells, hgoc⟩ := Kd.R_form ho (by have := HP.out; simp; omega); simp only [Int.toNat_natCast, List.length_replicate] at ho ⊢; rw [slL_zero n (cM cl n) right sg] at ho; have HGO : Aside0 (w8.heap.size ≤ go) := ⟨hgo1⟩; have HGL := Aside0.mk (HO.out.og 0 HP.out).1; have HBL := Aside0.mk (fun j (hj : j < n) => (HO.out.ob j 0 hj HP.out).1); have n0_ := Aside0.mk (HO.out.step hb); have HRO := Aside0.mk (Kd.R_lower ho HO.out.below.size); clear HO; have HO := n0_; clear n0_ ho hb hg2 hat hgo1 hgo2 hgoc))
  have HSEP : Aside0 (w.heap.size ≤ go ∧ go ≠ g ∧ ∀ j, j < n → b j ≠ go) := ⟨by
   have h1 := HGO.out
   have h2 := lt_of_cell HGL.out
   have h3 := HO.out.gb
   refine ⟨?_, ?_, fun j hj => ?_⟩
   ·simp only at h2; omega
   ·simp only at h2; omega
   ·have h4 := lt_of_cell (HBL.out j hj); simp only at h4; omega⟩
  clear HGO HGL HBL
  go_loopg [26] n (fun gg v26 wr => ∃ i : Nat, i ≤ n ∧ n - i ≤ gg ∧ v26 = .int .i64 (i : Int) ∧ Aside0 (Own w wr g n b cp (cM cl n)) ∧ Aside0 (Kd.R (Kd.int .i64) 2 wr w.heap.size (fun _ => True) (.slice (some ⟨go, 0, none⟩) n co) (slL n (cM cl n) right sg i)))
  case atStart => exact ⟨0, Nat.zero_le _, by omega, rfl, HO, HRO⟩
  case round =>
   clear HO HRO
   obtain ⟨i, hi, hg, rfl, HO, HRO⟩ := hrel
   have HG := Aside0.mk hg
   by_cases hlt : i < n
   ·have hltz : (i : Int) < (n : Int) := by omega
    have h0z : (0 : Int) ≤ (i : Int) := by omega
    have HLT := Aside0.mk hlt
    have hi1 : IntKind.i64.wrap ((i : Int) + 1) = ((i + 1 : Nat) : Int) := by rw [IntWalk.i64_in _ (by have := HN.out; omega)]; rfl
    have HI1 := Aside0.mk hi1
    clear hlt hi hg
    go_wp2_with fail
    refine (copy_own HO.out HCAP.out HP.out HN.out).mono ?_
    rintro e w10 ⟨g2, cap2, b2, cp2, rfl, hcap2, hO2⟩
    have HCAP2 := Aside0.mk hcap2
    have HO2 := Aside0.mk hO2
    clear hcap2 hO2
    go_wp2_with fail
    have hpc := putO (w0 := wr) i HLT.out cap2 A2 c2 right HO2.out HN.out (by rw [HRI.out]; exact Nat.le_refl _) (fun W hK hB => Kd.C_below HR2.out (Below.trans HO.out.below (hB.mono HO.out.below.size)))
    rw [HRI.out] at hpc
    refine hpc.mono ?_
    clear hpc
    rintro e w11 ⟨rfl, hO3, hK3⟩
    have HO3 := Aside0.mk hO3
    clear hO3 hK3 HO2
    go_wp2_with fail
    refine (impl_sign.calls D sg _ HSG.out).mono ?_
    rintro e w12 ⟨rfl, hd12⟩
    have n0_ := Aside0.mk (HO3.out.step hd12.below)
    clear HO3 hd12
    have HO3 := n0_
    clear n0_
    go_wp2_with fail
    refine (det_own HO3.out HCAP2.out HP.out HN.out).mono ?_
    rintro e w13 ⟨rfl, hb13⟩
    have hB13 : Below wr.heap.size wr w13 := Below.trans HO3.out.below (hb13.mono HO3.out.below.size)
    have n0_ := Aside0.mk (HO.out.step hB13)
    have n1_ := Aside0.mk (Kd.R_below HRO.out hB13)
    clear HO HRO HO3 hb13 hB13
    have HO := n0_
    have HRO := n1_
    clear n0_ n1_
    have hat := Kd.R_celln 0 HRO.out (i : Int) (by omega) hltz
    rw [Int.toNat_natCast] at hat
    have hcg := hat.1
    have hfg := hat.2
    clear hat
    have hput := Kd.R_putg HRO.out (i : Int) (sl n (cM cl n) right sg i)
    rw [Int.toNat_natCast, slL_next _ _ _ _ _ HLT.out] at hput
    have HPUT := Aside0.mk hput.1
    have HFAR := Aside0.mk (HO.out.far (p := ⟨go, i, none⟩) HSEP.out.1 HSEP.out.2.1 HSEP.out.2.2 (.int .i64 (sl n (cM cl n) right sg i)))
    clear hput
    go_wp2
    go_roundg (n - (i + 1))
    case measure => have := HG.out; have := HLT.out; omega
    case rel => exact ⟨i + 1, by have := HLT.out; omega, by omega, by first | rfl | (rw [HI1.out]) | (simp [HI1.out]), HFAR, HPUT⟩
   ·have hltz : ¬ (i : Int) < (n : Int) := by omega
    obtain rfl : i = n := by omega
    go_wp2_with fail
    refine (impl_size.calls D sz _ HSZ.out).mono ?_
    rintro e w14 ⟨rfl, hb⟩
    have n0_ := Aside0.mk (HO.out.step hb)
    have n1_ := Aside0.mk (Kd.R_below HRO.out hb)
    clear HO HRO hb
    go_wp2
    refine bodyPost_ret (results_list (rs := [.tmp 6, .tmp 7, .tmp 8]) rfl (by simp) (.tmp (.tmp (.tmp .nil)))) rfl ?_
    refine ⟨.slice (some ⟨go, 0, none⟩) i co, ?_, ?_, n0_.out.below⟩
    ·rfl
    ·exact n1_.out
end Go.Proofs.Ythdoilfjcgickaa.Hd
end
section
namespace Go.Proofs.Ythdoilfjcgickaa.Pr
open Go.RowKit Go.Proofs.YthdoilfjcgickaaW.PrintWords Go.Proofs.YthdoilfjcgickaaW.PrintLast Go.Proofs.YthdoilfjcgickaaW.PrintMore Go.Proofs.Ythdoilfjcgickaa.La Go.Proofs.Ythdoilfjcgickaa.Ma Go.Proofs.Ythdoilfjcgickaa.Hm Go.Proofs.Ythdoilfjcgickaa.Dt Go.Proofs.Ythdoilfjcgickaa.Hd
def colF (k : Nat) (M : List (List Int)) (Q : List Int) (s : Int) (i : Nat) : Option (List Int) := (impl_has.f s (i : Int)).bind fun t => impl_Problem_column.f k M Q (i : Int) t
def colOK (k : Nat) (M : List (List Int)) (Q : List Int) (s : Int) (n : Nat) : Bool := (List.range n).all fun i => match colF k M Q s i with
 | some c => c.length == n
 | none => false
def colL (k : Nat) (M : List (List Int)) (Q : List Int) (s : Int) (i : Nat) : List Int := (colF k M Q s i).getD []
def impl_Problem_solve.f (k : Nat) (l0_0 : List (List Int)) (l0_1 : List Int) (a1 : Int) (l2 : List Int) : Option (List Int × Int × Bool) :=
 if 0 < l0_1.length ∧ l0_1.length ≤ 1000 ∧ l2.length = l0_1.length ∧ colOK k l0_0 l0_1 a1 l0_1.length = true then
  (impl_sign.f (dO l0_1.length (cM (colL k l0_0 l0_1 a1) l0_1.length))).bind fun sg => (impl_size.f (dO l0_1.length (cM (colL k l0_0 l0_1 a1) l0_1.length))).bind fun sz =>
   some (if dO l0_1.length (cM (colL k l0_0 l0_1 a1) l0_1.length) = 0 then ([], 0, false) else (slL l0_1.length (cM (colL k l0_0 l0_1 a1) l0_1.length) l2 sg l0_1.length, sz, true))
 else none
theorem colF_mono (k : Nat) (M : List (List Int)) (Q : List Int) (s : Int) (i : Nat) : LeO (colF k M Q s i) (colF (k + 1) M Q s i) := by
 unfold colF
 exact LeO.bind (LeO.refl _) (fun t => impl_Problem_column.mono _ _ _ _ _)
theorem colOK_mono {k : Nat} {M : List (List Int)} {Q : List Int} {s : Int} {n : Nat} (h : colOK k M Q s n = true) : colOK (k + 1) M Q s n = true ∧ ∀ i, i < n → colL (k + 1) M Q s i = colL k M Q s i := by
 unfold colOK at h ⊢
 rw [List.all_eq_true] at h ⊢
 have key : ∀ i, i < n → colF (k + 1) M Q s i = colF k M Q s i ∧ ∃ c, colF k M Q s i = some c := by
  intro i hi
  have := h i (List.mem_range.2 hi)
  cases hc : colF k M Q s i with
  | none => rw [hc] at this; cases this
  | some c => exact ⟨colF_mono k M Q s i c hc, c, rfl⟩
 refine ⟨fun i hi => ?_, fun i hi => ?_⟩
 ·rw [(key i (List.mem_range.1 hi)).1]; exact h i hi
 ·unfold colL; rw [(key i hi).1]
theorem impl_Problem_solve.mono : ∀ a0 a1 a2 a3 k, LeO (impl_Problem_solve.f k a0 a1 a2 a3) (impl_Problem_solve.f (k + 1) a0 a1 a2 a3) := by
 intro a0 a1 a2 a3 k r h
 unfold impl_Problem_solve.f at h ⊢
 split at h
 case isFalse => cases h
 rename_i hc
 obtain ⟨h1, h2, h3, h4⟩ := hc
 obtain ⟨h5, hl⟩ := colOK_mono h4
 have hcm : cM (colL (k + 1) a0 a1 a2) a1.length = cM (colL k a0 a1 a2) a1.length := by
  funext a d
  unfold cM
  by_cases z : d < a1.length
  ·rw [if_pos z, if_pos z, hl d z]
  ·rw [if_neg z, if_neg z]
 rw [if_pos ⟨h1, h2, h3, h5⟩, hcm]
 exact h
theorem impl_Problem_solve.calls (k : Nat) (A0_0 : Option Addr) (c0_0 : Nat) (l0_0 : List (List Int)) (A0_1 : Option Addr) (c0_1 : Nat) (l0_1 : List Int) (a1 : Int) (A2 : Option Addr) (c2 : Nat) (l2 : List Int) (r1 : List Int) (r2 : Int) (r3 : Bool) (w : World) (hr0_0 : Kd.C (Kd.slice 2 (Kd.int .i64)) w A0_0 l0_0.length l0_0) (hc0_0 : l0_0.length ≤ c0_0) (hr0_1 : Kd.C (Kd.int .i64) w A0_1 l0_1.length l0_1) (hc0_1 : l0_1.length ≤ c0_1) (hr2 : Kd.C (Kd.int .i64) w A2 l2.length l2) (hc2 : l2.length ≤ c2) (h : impl_Problem_solve.f k l0_0 l0_1 a1 l2 = some (r1, r2, r3)) :
  Calls Try.prog 107 #[.agg #[.slice A0_0 l0_0.length c0_0, .slice A0_1 l0_1.length c0_1], .int .i64 a1, .slice A2 l2.length c2] w fun e w' => ∃ v0_ : Value, e = .returned (.tuple #[v0_, .int .i64 r2, .bool r3]) ∧ Kd.R (Kd.int .i64) 2 w' w.heap.size (fun _ => True) v0_ r1 ∧ Below w.heap.size w w' := by
 unfold impl_Problem_solve.f at h
 split at h
 case isFalse => cases h
 rename_i hc
 obtain ⟨h1, h2, h3, h4⟩ := hc
 obtain ⟨sg, hsg, h⟩ := Option.bind_eq_some_iff.mp h
 obtain ⟨sz, hsz, h⟩ := Option.bind_eq_some_iff.mp h
 have h := Option.some.inj h
 have hcl : ∀ i, i < l0_1.length → ∃ t, impl_has.f a1 (i : Int) = some t ∧ impl_Problem_column.f k l0_0 l0_1 (i : Int) t = some (colL k l0_0 l0_1 a1 i) ∧ (colL k l0_0 l0_1 a1 i).length = l0_1.length := by
  intro i hi
  unfold colOK at h4
  rw [List.all_eq_true] at h4
  have := h4 i (List.mem_range.2 hi)
  unfold colL
  cases hcf : colF k l0_0 l0_1 a1 i with
  | none => rw [hcf] at this; cases this
  | some c =>
   rw [hcf] at this
   obtain ⟨t, ht1, ht2⟩ := Option.bind_eq_some_iff.mp hcf
   exact ⟨t, ht1, ht2, by simpa using this⟩
 have hs := solve_calls k l0_1.length a1 (dO l0_1.length (cM (colL k l0_0 l0_1 a1) l0_1.length)) sg sz (colL k l0_0 l0_1 a1) A0_0 c0_0 l0_0 A0_1 c0_1 l0_1 A2 c2 l2 w hr0_0 hc0_0 hr0_1 hc0_1 hr2 hc2 rfl h3 h1 h2 hcl rfl hsg hsz
 by_cases d : dO l0_1.length (cM (colL k l0_0 l0_1 a1) l0_1.length) = 0
 ·rw [if_pos d] at h
  simp only [if_pos d] at hs
  cases h
  exact hs
 ·rw [if_neg d] at h
  simp only [if_neg d] at hs
  cases h
  exact hs
end Go.Proofs.Ythdoilfjcgickaa.Pr
end
section
namespace Go.Proofs.Ythdoilfjcgickaa.Pr
open Go.RowKit Go.Proofs.YthdoilfjcgickaaW.PrintWords Go.Proofs.YthdoilfjcgickaaW.PrintLast Go.Proofs.YthdoilfjcgickaaW.PrintMore
attribute [local go_sem] max2_int min2_int max_two min_two max_three min_three max_four min_four
def impl_Problem_point.f (k : Nat) (l0_0 : List (List Int)) (l0_1 : List Int) (a1 : Int) : Option (List Int × Int × Bool) := (impl_Problem_solve.f k l0_0 l0_1 a1 l0_1).bind fun bt360 => (some (bt360.1, bt360.2.1, bt360.2.2))
theorem impl_Problem_point.mono : ∀ a0 a1 a2 k, LeO (impl_Problem_point.f k a0 a1 a2) (impl_Problem_point.f (k + 1) a0 a1 a2) := by
 intro a0 a1 a2 k
 unfold impl_Problem_point.f
 repeat' first
   | (with_reducible exact impl_Problem_solve.mono _ _ _ _ _)
   | (with_reducible exact LeO.refl _)
   | (with_reducible exact LeO.none _)
   | (with_reducible refine LeO.ite ?_ ?_)
   | (with_reducible refine LeO.bind ?_ (fun _ => ?_))
   | exact impl_Problem_solve.mono _ _ _ _ _
   | exact LeO.none _
   | refine LeO.ite ?_ ?_
   | refine LeO.bind ?_ (fun _ => ?_)
theorem impl_Problem_point.calls (k : Nat) (A0_0 : Option Addr) (c0_0 : Nat) (l0_0 : List (List Int)) (A0_1 : Option Addr) (c0_1 : Nat) (l0_1 : List Int) (a1 : Int) (r1 : List Int) (r2 : Int) (r3 : Bool) (w : World) (hr0_0 : Kd.C (Kd.slice 2 (Kd.int .i64)) w A0_0 l0_0.length l0_0) (hc0_0 : l0_0.length ≤ c0_0) (hr0_1 : Kd.C (Kd.int .i64) w A0_1 l0_1.length l0_1) (hc0_1 : l0_1.length ≤ c0_1) (h : impl_Problem_point.f k l0_0 l0_1 a1 = some (r1, r2, r3)) :
  Calls Try.prog 71 #[.agg #[.slice A0_0 l0_0.length c0_0, .slice A0_1 l0_1.length c0_1], .int .i64 a1] w fun e w' => ∃ v0_ : Value, e = .returned (.tuple #[v0_, .int .i64 r2, .bool r3]) ∧ Kd.R (Kd.int .i64) 2 w' w.heap.size (fun _ => True) v0_ r1 ∧ Below w.heap.size w w' := by
 have hu29 := Try.underlying29
 have HR0_0 := Aside0.mk hr0_0
 have HC0_0 := Aside0.mk hc0_0
 clear hr0_0 hc0_0
 have HR0_1 := Aside0.mk hr0_1
 have HC0_1 := Aside0.mk hc0_1
 clear hr0_1 hc0_1
 have HB := Aside0.mk (Below.refl w.heap.size w)
 have H : ((impl_Problem_solve.f k l0_0 l0_1 a1 l0_1).bind fun bt360 => (some (bt360.1, bt360.2.1, bt360.2.2))) = some (r1, r2, r3) := h
 clear h
 replace H := Option.bind_eq_some_iff.mp H
 obtain ⟨⟨t360, t363, t364⟩, A30, H⟩ := H
 replace H : (some (t360, t363, t364)) = some (r1, r2, r3) := H
 have A3 := Aside0.mk A30
 clear A30
 simp only [Option.some.injEq, Prod.mk.injEq] at H
 obtain ⟨rfl, rfl, rfl⟩ := H
 go_enter Try.func71, Try.ntmps71
 go_wp2_with (first | ((with_reducible refine gate_dst (N := 2) rfl ?_); refine box_event ?hg (N := 2) ?hd (cs := #[.slice A0_0 l0_0.length c0_0, .slice A0_1 l0_1.length c0_1]) (t := 29) ?hr ?_; (case hd => rfl); (case hg => rfl); (case hr => first | (go_simp; done) | (go_simp; rfl)); intro gb359 hg w4 hbox hb; have n0_ := Aside0.mk (below_step (by repeat (first | (with_reducible first | exact HB.out | apply below_alloc | apply pw_below_drewN | apply below_drew1) | exact HB.out)) hb); have n1_ := Aside0.mk (hbox); have n2_ := Aside0.mk ((by rw [hg]; exact (below_size (by repeat (first | (with_reducible first | exact HB.out | apply below_alloc | apply pw_below_drewN | apply below_drew1) | exact HB.out))) : w.heap.size ≤ gb359)); have n3_ := Aside0.mk ((by rw [hg]; exact (below_size (by repeat (first | (with_reducible first | exact HB.out | apply below_alloc | apply pw_below_drewN | apply below_drew1) | exact HB.out))) : w.heap.size ≤ gb359)); clear HB; have HB := n0_; have BK359 := n1_; have GW359 := n2_; have GE359 := n3_; clear n0_ n1_ n2_ n3_; clear hb hbox hg; have hcz5_0 : w4.cell? ⟨gb359, 0, none⟩ = some (.slice A0_0 l0_0.length c0_0) := (blk_cell BK359.out 0).trans rfl; have hcz5_1 : w4.cell? ⟨gb359, 1, none⟩ = some (.slice A0_1 l0_1.length c0_1) := (blk_cell BK359.out 1).trans rfl; have hfz5_0 := blk_frozen BK359.out 0; have hfz5_1 := blk_frozen BK359.out 1) | ((with_reducible refine gate_callee (f := 107) rfl ?_); refine goesL_ (some 11) rfl rfl Try.func107 (by kernel_rfl) rfl #[.agg #[.slice A0_0 l0_0.length c0_0, .slice A0_1 l0_1.length c0_1], .int .i64 a1, .slice A0_1 l0_1.length c0_1] rfl (by (try simp only [List.map_toArray, List.map_cons, List.map_nil]); first | done | rfl | (simp only [List.length_drop, List.length_take]; rfl)) ?_; (with_reducible refine (impl_Problem_solve.calls k _ _ l0_0 _ _ l0_1 a1 _ _ l0_1 t360 t363 t364 _ ?side1 ?side2 ?side3 ?side4 ?side5 ?side6 A3.out).mono ?_); (case side1 => repeat (first | exact (Kd.C_below HR0_0.out HB.out) | (with_reducible refine Kd.C_alloc ?_ _) | (with_reducible refine Kd.C_drewN ?_ _) | (with_reducible refine Kd.C_drew ?_))); (case side2 => exact HC0_0.out); (case side3 => repeat (first | exact (Kd.C_below HR0_1.out HB.out) | (with_reducible refine Kd.C_alloc ?_ _) | (with_reducible refine Kd.C_drewN ?_ _) | (with_reducible refine Kd.C_drew ?_))); (case side4 => exact HC0_1.out); (case side5 => repeat (first | exact (Kd.C_below HR0_1.out HB.out) | (with_reducible refine Kd.C_alloc ?_ _) | (with_reducible refine Kd.C_drewN ?_ _) | (with_reducible refine Kd.C_drew ?_))); (case side6 => exact HC0_1.out); rintro e w6 ⟨v361, rfl, ho0, hb⟩; refine ⟨_, rfl, ?_⟩; have n0_ := Aside0.mk (Kd.R_lower ho0 (below_size (by repeat (first | (with_reducible first | exact HB.out | apply below_alloc | apply pw_below_drewN | apply below_drew1 | refine below_set ?_ GE359.out) | exact HB.out)))); have n1_ := Aside0.mk (blk_below (g := gb359) (o := .cells #[.slice A0_0 l0_0.length c0_0, .slice A0_1 l0_1.length c0_1] 29 (0, 0)) (by (with_reducible repeat (first | refine blk_drewN ?_ _ | refine blk_drew ?_ | refine blk_alloc ?_ _)); exact BK359.out) hb); have n2_ := Aside0.mk (below_step (by repeat (first | (with_reducible first | exact HB.out | apply below_alloc | apply pw_below_drewN | apply below_drew1 | refine below_set ?_ GE359.out) | exact HB.out)) hb); clear BK359; clear HB; have HO362 := n0_; have BK359 := n1_; have HB := n2_; clear n0_ n1_ n2_; (try clear hb); (try clear hb2); (try clear hk); (try clear hi); (try clear ho0)))
 go_ret3
 exact ⟨_, by first | rfl | (simp [errW_none, errW_some] <;> rfl) | (simp [*, errW_none, errW_some] <;> rfl), by (with_reducible repeat (first | apply Kd.R_alloc | apply Kd.R_drewN | apply Kd.R_drew)); exact HO362.out, by repeat (first | (with_reducible first | exact HB.out | apply below_alloc | apply pw_below_drewN | apply below_drew1 | refine below_set ?_ GE359.out) | exact HB.out)⟩
def impl_Problem_all.f (l0_0 : List (List Int)) (l0_1 : List Int) : Option (Int) := some (shl .i64 1 (l0_1.length : Int))
theorem impl_Problem_all.calls (A0_0 : Option Addr) (c0_0 : Nat) (l0_0 : List (List Int)) (A0_1 : Option Addr) (c0_1 : Nat) (l0_1 : List Int) (r : Int) (w : World) (hr0_0 : Kd.C (Kd.slice 2 (Kd.int .i64)) w A0_0 l0_0.length l0_0) (hc0_0 : l0_0.length ≤ c0_0) (hr0_1 : Kd.C (Kd.int .i64) w A0_1 l0_1.length l0_1) (hc0_1 : l0_1.length ≤ c0_1) (h : impl_Problem_all.f l0_0 l0_1 = some r) :
  Calls Try.prog 70 #[.agg #[.slice A0_0 l0_0.length c0_0, .slice A0_1 l0_1.length c0_1]] w fun e w' => e = .returned (.int .i64 r) ∧ Below w.heap.size w w' := by
 have hu29 := Try.underlying29
 have HR0_0 := Aside0.mk hr0_0
 have HC0_0 := Aside0.mk hc0_0
 clear hr0_0 hc0_0
 have HR0_1 := Aside0.mk hr0_1
 have HC0_1 := Aside0.mk hc0_1
 clear hr0_1 hc0_1
 have HB := Aside0.mk (Below.refl w.heap.size w)
 have H : (some (shl .i64 1 (l0_1.length : Int))) = some r := h
 clear h
 obtain ⟨ji2, hji2⟩ : ∃ j_ : Int, (shl .i64 1 (l0_1.length : Int)) = j_ := ⟨_, rfl⟩
 replace H : (some ji2) = some r := by first | (rw [hji2] at H; exact H) | (simp only [hji2] at H ⊢; exact H)
 have hji2_ : (IntKind.i64.wrap (1 * 2 ^ min (l0_1.length : Int).toNat 64)) = ji2 := hji2
 have hji2z : (l0_1.length : Int) ≤ 64 → (IntKind.i64.wrap (1 * 2 ^ (l0_1.length : Int).toNat)) = ji2 := shl_small hji2
 have hji2p : (IntKind.i64.wrap (1 * 2 ^ min l0_1.length 64)) = ji2 := hji2_
 have hji2q : (l0_1.length : Int) ≤ 64 → (IntKind.i64.wrap (1 * 2 ^ l0_1.length)) = ji2 := hji2z
 have hji2r : (IntKind.i64.wrap (2 ^ min l0_1.length 64)) = ji2 := by have h_ := hji2p; rw [Int.one_mul] at h_; exact h_
 have hji2s : (l0_1.length : Int) ≤ 64 → (IntKind.i64.wrap (2 ^ l0_1.length)) = ji2 := fun hle_ => by have h_ := hji2q hle_; rw [Int.one_mul] at h_; exact h_
 have hji2u : (IntKind.i64.wrap (2 ^ min (l0_1.length : Int).toNat 64)) = ji2 := by have h_ := hji2_; rw [Int.one_mul] at h_; exact h_
 have hji2v : (l0_1.length : Int) ≤ 64 → (IntKind.i64.wrap (2 ^ (l0_1.length : Int).toNat)) = ji2 := fun hle_ => by have h_ := hji2z hle_; rw [Int.one_mul] at h_; exact h_
 have hji2y : (wrap64 (1 * 2 ^ min (l0_1.length : Int).toNat 64)) = ji2 := (i64_w _).symm.trans hji2_
 have hji2x : (l0_1.length : Int) ≤ 64 → (wrap64 (1 * 2 ^ (l0_1.length : Int).toNat)) = ji2 := fun h_ => (i64_w _).symm.trans (hji2z h_)
 obtain rfl := Option.some.inj H
 go_enter Try.func70, Try.ntmps70
 go_wp2_with (first | ((with_reducible refine gate_dst (N := 1) rfl ?_); refine box_event ?hg (N := 1) ?hd (cs := #[.slice A0_0 l0_0.length c0_0, .slice A0_1 l0_1.length c0_1]) (t := 29) ?hr ?_; (case hd => rfl); (case hg => rfl); (case hr => first | (go_simp; done) | (go_simp; rfl)); intro gb479 hg w3 hbox hb; have n0_ := Aside0.mk (below_step (by repeat (first | (with_reducible first | exact HB.out | apply below_alloc | apply pw_below_drewN | apply below_drew1) | exact HB.out)) hb); have n1_ := Aside0.mk (hbox); have n2_ := Aside0.mk ((by rw [hg]; exact (below_size (by repeat (first | (with_reducible first | exact HB.out | apply below_alloc | apply pw_below_drewN | apply below_drew1) | exact HB.out))) : w.heap.size ≤ gb479)); have n3_ := Aside0.mk ((by rw [hg]; exact (below_size (by repeat (first | (with_reducible first | exact HB.out | apply below_alloc | apply pw_below_drewN | apply below_drew1) | exact HB.out))) : w.heap.size ≤ gb479)); clear HB; have HB := n0_; have BK479 := n1_; have GW479 := n2_; have GE479 := n3_; clear n0_ n1_ n2_ n3_; clear hb hbox hg; have hcz4_0 : w3.cell? ⟨gb479, 0, none⟩ = some (.slice A0_0 l0_0.length c0_0) := (blk_cell BK479.out 0).trans rfl; have hcz4_1 : w3.cell? ⟨gb479, 1, none⟩ = some (.slice A0_1 l0_1.length c0_1) := (blk_cell BK479.out 1).trans rfl; have hfz4_0 := blk_frozen BK479.out 0; have hfz4_1 := blk_frozen BK479.out 1))
 go_ret
 exact ⟨by first | rfl | (simp [errW_none, errW_some] <;> rfl) | (simp only [← hji2]; first | rfl | (simp [errW_none, errW_some] <;> rfl)) | (simp [*, errW_none, errW_some] <;> rfl), by repeat (first | (with_reducible first | exact HB.out | apply below_alloc | apply pw_below_drewN | apply below_drew1 | refine below_set ?_ GE479.out) | exact HB.out)⟩
def slices_Index_int64_int64.l0 : Nat → List Int → Int → Int → Int → Option (Int)
 | 0, _, _, _, _ => none
 | k + 1, x0, x1, x7, x8 => if x8 < x7 then (if 0 ≤ x8 then (if x8 < (x0.length : Int) then (if x1 = (rd x0 x8) then (some x8) else (slices_Index_int64_int64.l0 k x0 x1 x7 (wrap64 (x8 + 1)))) else (none)) else (none)) else (some (-1))
def slices_Index_int64_int64.f (k : Nat) (l0 : List Int) (a1 : Int) : Option (Int) := slices_Index_int64_int64.l0 k l0 a1 (l0.length : Int) 0
theorem slices_Index_int64_int64.mono_l : ∀ k, (∀ y0 y1 y2 y3, LeO (slices_Index_int64_int64.l0 k y0 y1 y2 y3) (slices_Index_int64_int64.l0 (k + 1) y0 y1 y2 y3))
 | 0 => fun _ _ _ _ r h => by simp [slices_Index_int64_int64.l0] at h
 | k + 1 => by
  have ih0 := slices_Index_int64_int64.mono_l k
  ·intro y0 y1 y2 y3
   unfold slices_Index_int64_int64.l0
   repeat' first
   | (with_reducible exact ih0 _ _ _ _)
   | (with_reducible exact LeO.refl _)
   | (with_reducible exact LeO.none _)
   | (with_reducible refine LeO.ite ?_ ?_)
   | (with_reducible refine LeO.bind ?_ (fun _ => ?_))
   | exact ih0 _ _ _ _
   | exact LeO.none _
   | refine LeO.ite ?_ ?_
   | refine LeO.bind ?_ (fun _ => ?_)
theorem slices_Index_int64_int64.mono : ∀ a0 a1 k, LeO (slices_Index_int64_int64.f k a0 a1) (slices_Index_int64_int64.f (k + 1) a0 a1) := by
 intro a0 a1 k
 have ih0 := slices_Index_int64_int64.mono_l k
 unfold slices_Index_int64_int64.f
 repeat' first
   | (with_reducible exact ih0 _ _ _ _)
   | (with_reducible exact LeO.refl _)
   | (with_reducible exact LeO.none _)
   | (with_reducible refine LeO.ite ?_ ?_)
   | (with_reducible refine LeO.bind ?_ (fun _ => ?_))
   | exact ih0 _ _ _ _
   | exact LeO.none _
   | refine LeO.ite ?_ ?_
   | refine LeO.bind ?_ (fun _ => ?_)
theorem slices_Index_int64_int64.calls (k : Nat) (A0 : Option Addr) (c0 : Nat) (l0 : List Int) (a1 : Int) (r : Int) (w : World) (hr0 : Kd.C (Kd.int .i64) w A0 l0.length l0) (hc0 : l0.length ≤ c0) (h : slices_Index_int64_int64.f k l0 a1 = some r) :
  Calls Try.prog 108 #[.slice A0 l0.length c0, .int .i64 a1] w fun e w' => e = .returned (.int .i64 r) ∧ Drawn0 w w' := by
 have HR0 := Aside0.mk hr0
 have HC0 := Aside0.mk hc0
 clear hr0 hc0
 have H : (slices_Index_int64_int64.l0 k l0 a1 (l0.length : Int) 0) = some r := h
 clear h
 have H' := Aside0.mk H
 clear H
 go_enter Try.func108, Try.ntmps108
 go_wp2
 go_loopg [8] k (fun kq v8 w' => ∃ (x8_1 : Int), v8 = .int .i64 x8_1 ∧ Aside0 (slices_Index_int64_int64.l0 kq l0 a1 (l0.length : Int) x8_1 = some r) ∧ Aside0 (kq ≤ k) ∧ Drawn0 w w')
 case atStart => exact ⟨(0), (by first | rfl | (simp; done) | (simp [*]; done)), H', ⟨Nat.le_refl _⟩, by repeat (first | exact Drawn0.refl _ | apply Drawn0.step)⟩
 case round =>
  clear H'
  try clear c1
  try clear p2
  obtain ⟨x8_1, rfl, HA, HK1, ⟨m1, rfl⟩⟩ := hrel
  cases gk with
  | zero => exact absurd HA.out (by simp [slices_Index_int64_int64.l0])
  | succ k1 =>
   have H := HA.out
   clear HA
   simp only [slices_Index_int64_int64.l0] at H
   by_cases c3 : x8_1 < (l0.length : Int)
   ·rw [if_pos c3] at H
    have c3b0 : decide (x8_1 < (l0.length : Int)) = true := decide_eq_true c3
    clear c3
    by_cases c4 : 0 ≤ x8_1
    ·rw [if_pos c4] at H
     have c4b0 : decide (0 ≤ x8_1) = true := decide_eq_true c4
     clear c4
     by_cases c5 : x8_1 < (l0.length : Int)
     ·rw [if_pos c5] at H
      have c5b0 : decide (x8_1 < (l0.length : Int)) = true := decide_eq_true c5
      clear c5
      by_cases c6 : a1 = (rd l0 x8_1)
      ·rw [if_pos c6] at H
       have c6b0 : (a1 == (rd l0 x8_1)) = true := beq_iff_eq.mpr c6
       have c6b1 : (a1 != (rd l0 x8_1)) = false := bne_eq_false_iff_eq.mpr c6
       clear c6
       obtain rfl := Option.some.inj H
       have p480 : 0 ≤ (x8_1 : Int) := of_decide_eq_true (by first | (with_reducible assumption) | assumption)
       have q480 : x8_1 < (l0.length : Int) := of_decide_eq_true (by first | (with_reducible assumption) | assumption)
       obtain ⟨ad480, e480, hx480_0⟩ := Kd.at_int HR0.out x8_1 p480 q480
       cases e480
       replace p480 := eq_true p480
       replace q480 := eq_true q480
       go_wp2
       go_ret
       exact ⟨by first | rfl | (simp; done) | (simp [*]; done), by repeat (first | exact Drawn0.refl _ | apply Drawn0.step)⟩
      ·rw [if_neg c6] at H
       have c6b0 : (a1 == (rd l0 x8_1)) = false := beq_eq_false_iff_ne.mpr c6
       have c6b1 : (a1 != (rd l0 x8_1)) = true := bne_iff_ne.mpr c6
       have H' := Aside0.mk H
       clear H
       have p480 : 0 ≤ (x8_1 : Int) := of_decide_eq_true (by first | (with_reducible assumption) | assumption)
       have q480 : x8_1 < (l0.length : Int) := of_decide_eq_true (by first | (with_reducible assumption) | assumption)
       obtain ⟨ad480, e480, hx480_0⟩ := Kd.at_int HR0.out x8_1 p480 q480
       cases e480
       replace p480 := eq_true p480
       replace q480 := eq_true q480
       go_wp2
       go_roundg k1
       case measure => have := HK1.out; omega
       case rel => exact ⟨(wrap64 (x8_1 + 1)), (by first | rfl | (simp; done) | (simp [*]; done)), H', ⟨by have := HK1.out; omega⟩, by repeat (first | exact Drawn0.refl _ | apply Drawn0.step)⟩
     ·rw [if_neg c5] at H
      exact absurd H (by simp)
    ·rw [if_neg c4] at H
     exact absurd H (by simp)
   ·rw [if_neg c3] at H
    have c3b0 : decide (x8_1 < (l0.length : Int)) = false := decide_eq_false c3
    clear c3
    obtain rfl := Option.some.inj H
    go_wp2
    go_ret
    exact ⟨by first | rfl | (simp; done) | (simp [*]; done), by repeat (first | exact Drawn0.refl _ | apply Drawn0.step)⟩
def slices_Contains_int64_int64.f (k : Nat) (l0 : List Int) (a1 : Int) : Option (Bool) := (slices_Index_int64_int64.f k l0 a1).bind fun t481 => (some (decide (t481 ≥ 0)))
theorem slices_Contains_int64_int64.mono : ∀ a0 a1 k, LeO (slices_Contains_int64_int64.f k a0 a1) (slices_Contains_int64_int64.f (k + 1) a0 a1) := by
 intro a0 a1 k
 unfold slices_Contains_int64_int64.f
 repeat' first
   | (with_reducible exact slices_Index_int64_int64.mono _ _ _)
   | (with_reducible exact LeO.refl _)
   | (with_reducible exact LeO.none _)
   | (with_reducible refine LeO.ite ?_ ?_)
   | (with_reducible refine LeO.bind ?_ (fun _ => ?_))
   | exact slices_Index_int64_int64.mono _ _ _
   | exact LeO.none _
   | refine LeO.ite ?_ ?_
   | refine LeO.bind ?_ (fun _ => ?_)
theorem slices_Contains_int64_int64.calls (k : Nat) (A0 : Option Addr) (c0 : Nat) (l0 : List Int) (a1 : Int) (r : Bool) (w : World) (hr0 : Kd.C (Kd.int .i64) w A0 l0.length l0) (hc0 : l0.length ≤ c0) (h : slices_Contains_int64_int64.f k l0 a1 = some r) :
  Calls Try.prog 72 #[.slice A0 l0.length c0, .int .i64 a1] w fun e w' => e = .returned (.bool r) ∧ Drawn0 w w' := by
 have HR0 := Aside0.mk hr0
 have HC0 := Aside0.mk hc0
 clear hr0 hc0
 have H : ((slices_Index_int64_int64.f k l0 a1).bind fun t481 => (some (decide (t481 ≥ 0)))) = some r := h
 clear h
 replace H := Option.bind_eq_some_iff.mp H
 obtain ⟨t481, A30, H⟩ := H
 replace H : (some (decide (t481 ≥ 0))) = some r := H
 have A3 := Aside0.mk A30
 clear A30
 obtain rfl := Option.some.inj H
 go_enter Try.func72, Try.ntmps72
 go_wp2_with (first | ((with_reducible refine gate_callee (f := 108) rfl ?_); refine goesL_ (some 7) rfl rfl Try.func108 (by kernel_rfl) rfl #[.slice A0 l0.length c0, .int .i64 a1] rfl (by (try simp only [List.map_toArray, List.map_cons, List.map_nil]); first | done | rfl | (simp only [List.length_drop, List.length_take]; rfl)) ?_; (with_reducible refine (slices_Index_int64_int64.calls k _ _ l0 a1 t481 _ ?side1 ?side2 A3.out).mono ?_); (case side1 => repeat (first | exact HR0.out | (with_reducible refine Kd.C_alloc ?_ _) | (with_reducible refine Kd.C_drewN ?_ _) | (with_reducible refine Kd.C_drew ?_))); (case side2 => exact HC0.out); rintro e w' ⟨rfl, ⟨nd, rfl⟩⟩; refine ⟨_, rfl, ?_⟩))
 go_ret
 exact ⟨by first | rfl | (simp; done) | (simp [*]; done), by repeat (first | exact Drawn0.refl _ | apply Drawn0.step)⟩
mutual
def impl_exchanged.l0 : Nat → List Int → Int → Int → Int → Int → Int → List Int → Int → Int → Option (Int)
 | 0, _, _, _, _, _, _, _, _, _ => none
 | k + 1, x0, x1, x5, x6, x7, x8, x11, x12, x13 => if x13 < x12 then (if 0 ≤ x13 then (if x13 < (x11.length : Int) then (if (rd x11 x13) ≥ 0 then (impl_exchanged.l0 k x0 x1 x5 x6 x7 x8 x11 x12 (wrap64 (x13 + 1))) else (if x6 < 0 then (if 0 ≤ x8 then (if x8 < (x0.length : Int) then (if (rd x11 x13) < (rd x0 x8) then (impl_exchanged.l0 k x0 x1 (Go.bits .or .i64 x5 (shl .i64 1 x13)) x13 x13 x13 x11 x12 (wrap64 (x13 + 1))) else (impl_exchanged.l0 k x0 x1 (Go.bits .or .i64 x5 (shl .i64 1 x13)) x13 x13 x8 x11 x12 (wrap64 (x13 + 1)))) else (none)) else (none)) else (if 0 ≤ x8 then (if x8 < (x0.length : Int) then (if (rd x11 x13) < (rd x0 x8) then (impl_exchanged.l0 k x0 x1 (Go.bits .or .i64 x5 (shl .i64 1 x13)) x6 x13 x13 x11 x12 (wrap64 (x13 + 1))) else (impl_exchanged.l0 k x0 x1 (Go.bits .or .i64 x5 (shl .i64 1 x13)) x6 x13 x8 x11 x12 (wrap64 (x13 + 1)))) else (none)) else (none)))) else (none)) else (none)) else (if x5 = 0 then (impl_exchanged.j1 k x1 x5 x6 x7 x8 true) else (impl_exchanged.j1 k x1 x5 x6 x7 x8 (x1 == 3)))
def impl_exchanged.j1 : Nat → Int → Int → Int → Int → Int → Bool → Option (Int)
 | 0, _, _, _, _, _, _ => none
 | k + 1, x1, x5, x6, x7, x8, x36 => if x36 = true then (some x5) else (if x1 = 0 then (if 0 ≤ x6 then (some (shl .i64 1 x6)) else (none)) else (if x1 = 1 then (if 0 ≤ x7 then (some (shl .i64 1 x7)) else (none)) else (if 0 ≤ x8 then (some (shl .i64 1 x8)) else (none))))
end
def impl_exchanged.f (k : Nat) (l0 : List Int) (a1 : Int) : Option (Int) := impl_exchanged.l0 k l0 a1 0 (-1) (-1) 0 l0 (l0.length : Int) 0
theorem impl_exchanged.mono_l : ∀ k, (∀ y0 y1 y2 y3 y4 y5 y6 y7 y8, LeO (impl_exchanged.l0 k y0 y1 y2 y3 y4 y5 y6 y7 y8) (impl_exchanged.l0 (k + 1) y0 y1 y2 y3 y4 y5 y6 y7 y8)) ∧ (∀ y0 y1 y2 y3 y4 y5, LeO (impl_exchanged.j1 k y0 y1 y2 y3 y4 y5) (impl_exchanged.j1 (k + 1) y0 y1 y2 y3 y4 y5))
 | 0 => ⟨fun _ _ _ _ _ _ _ _ _ r h => by simp [impl_exchanged.l0] at h, fun _ _ _ _ _ _ r h => by simp [impl_exchanged.j1] at h⟩
 | k + 1 => by
  obtain ⟨ih0, ih1⟩ := impl_exchanged.mono_l k
  refine ⟨?_, ?_⟩
  ·intro y0 y1 y2 y3 y4 y5 y6 y7 y8
   unfold impl_exchanged.l0
   repeat' first
   | (with_reducible exact ih0 _ _ _ _ _ _ _ _ _)
   | (with_reducible exact ih1 _ _ _ _ _ _)
   | (with_reducible exact LeO.refl _)
   | (with_reducible exact LeO.none _)
   | (with_reducible refine LeO.ite ?_ ?_)
   | (with_reducible refine LeO.bind ?_ (fun _ => ?_))
   | exact ih0 _ _ _ _ _ _ _ _ _
   | exact ih1 _ _ _ _ _ _
   | exact LeO.none _
   | refine LeO.ite ?_ ?_
   | refine LeO.bind ?_ (fun _ => ?_)
  ·intro y0 y1 y2 y3 y4 y5
   unfold impl_exchanged.j1
   repeat' first
   | (with_reducible exact ih0 _ _ _ _ _ _ _ _ _)
   | (with_reducible exact ih1 _ _ _ _ _ _)
   | (with_reducible exact LeO.refl _)
   | (with_reducible exact LeO.none _)
   | (with_reducible refine LeO.ite ?_ ?_)
   | (with_reducible refine LeO.bind ?_ (fun _ => ?_))
   | exact ih0 _ _ _ _ _ _ _ _ _
   | exact ih1 _ _ _ _ _ _
   | exact LeO.none _
   | refine LeO.ite ?_ ?_
   | refine LeO.bind ?_ (fun _ => ?_)
theorem impl_exchanged.mono : ∀ a0 a1 k, LeO (impl_exchanged.f k a0 a1) (impl_exchanged.f (k + 1) a0 a1) := by
 intro a0 a1 k
 obtain ⟨ih0, ih1⟩ := impl_exchanged.mono_l k
 unfold impl_exchanged.f
 repeat' first
   | (with_reducible exact ih0 _ _ _ _ _ _ _ _ _)
   | (with_reducible exact ih1 _ _ _ _ _ _)
   | (with_reducible exact LeO.refl _)
   | (with_reducible exact LeO.none _)
   | (with_reducible refine LeO.ite ?_ ?_)
   | (with_reducible refine LeO.bind ?_ (fun _ => ?_))
   | exact ih0 _ _ _ _ _ _ _ _ _
   | exact ih1 _ _ _ _ _ _
   | exact LeO.none _
   | refine LeO.ite ?_ ?_
   | refine LeO.bind ?_ (fun _ => ?_)
theorem impl_exchanged.calls (k : Nat) (A0 : Option Addr) (c0 : Nat) (l0 : List Int) (a1 : Int) (r : Int) (w : World) (hr0 : Kd.C (Kd.int .i64) w A0 l0.length l0) (hc0 : l0.length ≤ c0) (h : impl_exchanged.f k l0 a1 = some r) :
  Calls Try.prog 112 #[.slice A0 l0.length c0, .int .i64 a1] w fun e w' => e = .returned (.int .i64 r) ∧ Drawn0 w w' := by
 have HR0 := Aside0.mk hr0
 have HC0 := Aside0.mk hc0
 clear hr0 hc0
 have H : (impl_exchanged.l0 k l0 a1 0 (-1) (-1) 0 l0 (l0.length : Int) 0) = some r := h
 clear h
 have H' := Aside0.mk H
 clear H
 go_enter Try.func112, Try.ntmps112
 go_wp2
 go_loopg [5, 6, 7, 8, 13] k (fun kq v5 v6 v7 v8 v13 w' => ∃ (x5_1 : Int) (x6_1 : Int) (x7_1 : Int) (x8_1 : Int) (x13_1 : Int), v5 = .int .i64 x5_1 ∧ v6 = .int .i64 x6_1 ∧ v7 = .int .i64 x7_1 ∧ v8 = .int .i64 x8_1 ∧ v13 = .int .i64 x13_1 ∧ Aside0 (impl_exchanged.l0 kq l0 a1 x5_1 x6_1 x7_1 x8_1 l0 (l0.length : Int) x13_1 = some r) ∧ Aside0 (kq ≤ k) ∧ Drawn0 w w')
 case atStart => exact ⟨(0), ((-1)), ((-1)), (0), (0), (by first | rfl | (simp; done) | (simp [*]; done)), (by first | rfl | (simp; done) | (simp [*]; done)), (by first | rfl | (simp; done) | (simp [*]; done)), (by first | rfl | (simp; done) | (simp [*]; done)), (by first | rfl | (simp; done) | (simp [*]; done)), H', ⟨Nat.le_refl _⟩, by repeat (first | exact Drawn0.refl _ | apply Drawn0.step)⟩
 case round =>
  clear H'
  try clear c1
  try clear p2
  obtain ⟨x5_1, x6_1, x7_1, x8_1, x13_1, rfl, rfl, rfl, rfl, rfl, HA, HK1, ⟨m1, rfl⟩⟩ := hrel
  cases gk with
  | zero => exact absurd HA.out (by simp [impl_exchanged.l0])
  | succ k1 =>
   have H := HA.out
   clear HA
   simp only [impl_exchanged.l0] at H
   by_cases c3 : x13_1 < (l0.length : Int)
   ·rw [if_pos c3] at H
    have c3b0 : decide (x13_1 < (l0.length : Int)) = true := decide_eq_true c3
    clear c3
    by_cases c4 : 0 ≤ x13_1
    ·rw [if_pos c4] at H
     have c4b0 : decide (0 ≤ x13_1) = true := decide_eq_true c4
     clear c4
     by_cases c5 : x13_1 < (l0.length : Int)
     ·rw [if_pos c5] at H
      have c5b0 : decide (x13_1 < (l0.length : Int)) = true := decide_eq_true c5
      clear c5
      by_cases c6 : (rd l0 x13_1) ≥ 0
      ·rw [if_pos c6] at H
       have c6b0 : decide (0 ≤ (rd l0 x13_1)) = true := decide_eq_true c6
       clear c6
       have H' := Aside0.mk H
       clear H
       have p668 : 0 ≤ (x13_1 : Int) := of_decide_eq_true (by first | (with_reducible assumption) | assumption)
       have q668 : x13_1 < (l0.length : Int) := of_decide_eq_true (by first | (with_reducible assumption) | assumption)
       obtain ⟨ad668, e668, hx668_0⟩ := Kd.at_int HR0.out x13_1 p668 q668
       cases e668
       replace p668 := eq_true p668
       replace q668 := eq_true q668
       go_wp2
       go_roundg k1
       case measure => have := HK1.out; omega
       case rel => exact ⟨(x5_1), (x6_1), (x7_1), (x8_1), (wrap64 (x13_1 + 1)), (by first | rfl | (simp; done) | (simp [*]; done)), (by first | rfl | (simp; done) | (simp [*]; done)), (by first | rfl | (simp; done) | (simp [*]; done)), (by first | rfl | (simp; done) | (simp [*]; done)), (by first | rfl | (simp; done) | (simp [*]; done)), H', ⟨by have := HK1.out; omega⟩, by repeat (first | exact Drawn0.refl _ | apply Drawn0.step)⟩
      ·rw [if_neg c6] at H
       have c6b0 : decide (0 ≤ (rd l0 x13_1)) = false := decide_eq_false c6
       clear c6
       have c7b0 := eq_true (of_decide_eq_true (by first | (with_reducible assumption) | assumption) : 0 ≤ x13_1)
       obtain ⟨ji8, hji8⟩ : ∃ j_ : Int, (shl .i64 1 x13_1) = j_ := ⟨_, rfl⟩
       replace H : (if x6_1 < 0 then (if 0 ≤ x8_1 then (if x8_1 < (l0.length : Int) then (if (rd l0 x13_1) < (rd l0 x8_1) then (impl_exchanged.l0 k1 l0 a1 (Go.bits .or .i64 x5_1 (ji8)) x13_1 x13_1 x13_1 l0 (l0.length : Int) (wrap64 (x13_1 + 1))) else (impl_exchanged.l0 k1 l0 a1 (Go.bits .or .i64 x5_1 (ji8)) x13_1 x13_1 x8_1 l0 (l0.length : Int) (wrap64 (x13_1 + 1)))) else (none)) else (none)) else (if 0 ≤ x8_1 then (if x8_1 < (l0.length : Int) then (if (rd l0 x13_1) < (rd l0 x8_1) then (impl_exchanged.l0 k1 l0 a1 (Go.bits .or .i64 x5_1 (ji8)) x6_1 x13_1 x13_1 l0 (l0.length : Int) (wrap64 (x13_1 + 1))) else (impl_exchanged.l0 k1 l0 a1 (Go.bits .or .i64 x5_1 (ji8)) x6_1 x13_1 x8_1 l0 (l0.length : Int) (wrap64 (x13_1 + 1)))) else (none)) else (none))) = some r := by first | (rw [hji8] at H; exact H) | (simp only [hji8] at H ⊢; exact H)
       have hji8_ : (IntKind.i64.wrap (1 * 2 ^ min x13_1.toNat 64)) = ji8 := hji8
       have hji8z : x13_1 ≤ 64 → (IntKind.i64.wrap (1 * 2 ^ x13_1.toNat)) = ji8 := shl_small hji8
       have hji8u : (IntKind.i64.wrap (2 ^ min x13_1.toNat 64)) = ji8 := by have h_ := hji8_; rw [Int.one_mul] at h_; exact h_
       have hji8v : x13_1 ≤ 64 → (IntKind.i64.wrap (2 ^ x13_1.toNat)) = ji8 := fun hle_ => by have h_ := hji8z hle_; rw [Int.one_mul] at h_; exact h_
       have hji8y : (wrap64 (1 * 2 ^ min x13_1.toNat 64)) = ji8 := (i64_w _).symm.trans hji8_
       have hji8x : x13_1 ≤ 64 → (wrap64 (1 * 2 ^ x13_1.toNat)) = ji8 := fun h_ => (i64_w _).symm.trans (hji8z h_)
       by_cases c9 : x6_1 < 0
       ·rw [if_pos c9] at H
        have c9b0 : decide (x6_1 < 0) = true := decide_eq_true c9
        clear c9
        by_cases c10 : 0 ≤ x8_1
        ·rw [if_pos c10] at H
         have c10b0 : decide (0 ≤ x8_1) = true := decide_eq_true c10
         clear c10
         by_cases c11 : x8_1 < (l0.length : Int)
         ·rw [if_pos c11] at H
          have c11b0 : decide (x8_1 < (l0.length : Int)) = true := decide_eq_true c11
          clear c11
          by_cases c12 : (rd l0 x13_1) < (rd l0 x8_1)
          ·rw [if_pos c12] at H
           have c12b0 : decide ((rd l0 x13_1) < (rd l0 x8_1)) = true := decide_eq_true c12
           clear c12
           have H' := Aside0.mk H
           clear H
           have p668 : 0 ≤ (x13_1 : Int) := of_decide_eq_true (by first | (with_reducible assumption) | assumption)
           have q668 : x13_1 < (l0.length : Int) := of_decide_eq_true (by first | (with_reducible assumption) | assumption)
           obtain ⟨ad668, e668, hx668_0⟩ := Kd.at_int HR0.out x13_1 p668 q668
           cases e668
           replace p668 := eq_true p668
           replace q668 := eq_true q668
           have p669 : 0 ≤ (x8_1 : Int) := of_decide_eq_true (by first | (with_reducible assumption) | assumption)
           have q669 : x8_1 < (l0.length : Int) := of_decide_eq_true (by first | (with_reducible assumption) | assumption)
           obtain ⟨ad669, e669, hx669_0⟩ := Kd.at_int HR0.out x8_1 p669 q669
           obtain rfl : ad668 = ad669 := (by injection e669)
           replace p669 := eq_true p669
           replace q669 := eq_true q669
           go_wp2
           go_roundg k1
           case measure => have := HK1.out; omega
           case rel => exact ⟨(Go.bits .or .i64 x5_1 (ji8)), (x13_1), (x13_1), (x13_1), (wrap64 (x13_1 + 1)), (by first | rfl | (simp; done) | (simp only [← hji8] <;> (first | rfl | simp)) | (simp [*]; done)), (by first | rfl | (simp; done) | (simp [*]; done)), (by first | rfl | (simp; done) | (simp [*]; done)), (by first | rfl | (simp; done) | (simp [*]; done)), (by first | rfl | (simp; done) | (simp [*]; done)), H', ⟨by have := HK1.out; omega⟩, by repeat (first | exact Drawn0.refl _ | apply Drawn0.step)⟩
          ·rw [if_neg c12] at H
           have c12b0 : decide ((rd l0 x13_1) < (rd l0 x8_1)) = false := decide_eq_false c12
           clear c12
           have H' := Aside0.mk H
           clear H
           have p668 : 0 ≤ (x13_1 : Int) := of_decide_eq_true (by first | (with_reducible assumption) | assumption)
           have q668 : x13_1 < (l0.length : Int) := of_decide_eq_true (by first | (with_reducible assumption) | assumption)
           obtain ⟨ad668, e668, hx668_0⟩ := Kd.at_int HR0.out x13_1 p668 q668
           cases e668
           replace p668 := eq_true p668
           replace q668 := eq_true q668
           have p669 : 0 ≤ (x8_1 : Int) := of_decide_eq_true (by first | (with_reducible assumption) | assumption)
           have q669 : x8_1 < (l0.length : Int) := of_decide_eq_true (by first | (with_reducible assumption) | assumption)
           obtain ⟨ad669, e669, hx669_0⟩ := Kd.at_int HR0.out x8_1 p669 q669
           obtain rfl : ad668 = ad669 := (by injection e669)
           replace p669 := eq_true p669
           replace q669 := eq_true q669
           go_wp2
           go_roundg k1
           case measure => have := HK1.out; omega
           case rel => exact ⟨(Go.bits .or .i64 x5_1 (ji8)), (x13_1), (x13_1), (x8_1), (wrap64 (x13_1 + 1)), (by first | rfl | (simp; done) | (simp only [← hji8] <;> (first | rfl | simp)) | (simp [*]; done)), (by first | rfl | (simp; done) | (simp [*]; done)), (by first | rfl | (simp; done) | (simp [*]; done)), (by first | rfl | (simp; done) | (simp [*]; done)), (by first | rfl | (simp; done) | (simp [*]; done)), H', ⟨by have := HK1.out; omega⟩, by repeat (first | exact Drawn0.refl _ | apply Drawn0.step)⟩
         ·rw [if_neg c11] at H
          exact absurd H (by simp)
        ·rw [if_neg c10] at H
         exact absurd H (by simp)
       ·rw [if_neg c9] at H
        have c9b0 : decide (x6_1 < 0) = false := decide_eq_false c9
        clear c9
        by_cases c13 : 0 ≤ x8_1
        ·rw [if_pos c13] at H
         have c13b0 : decide (0 ≤ x8_1) = true := decide_eq_true c13
         clear c13
         by_cases c14 : x8_1 < (l0.length : Int)
         ·rw [if_pos c14] at H
          have c14b0 : decide (x8_1 < (l0.length : Int)) = true := decide_eq_true c14
          clear c14
          by_cases c15 : (rd l0 x13_1) < (rd l0 x8_1)
          ·rw [if_pos c15] at H
           have c15b0 : decide ((rd l0 x13_1) < (rd l0 x8_1)) = true := decide_eq_true c15
           clear c15
           have H' := Aside0.mk H
           clear H
           have p668 : 0 ≤ (x13_1 : Int) := of_decide_eq_true (by first | (with_reducible assumption) | assumption)
           have q668 : x13_1 < (l0.length : Int) := of_decide_eq_true (by first | (with_reducible assumption) | assumption)
           obtain ⟨ad668, e668, hx668_0⟩ := Kd.at_int HR0.out x13_1 p668 q668
           cases e668
           replace p668 := eq_true p668
           replace q668 := eq_true q668
           have p670 : 0 ≤ (x8_1 : Int) := of_decide_eq_true (by first | (with_reducible assumption) | assumption)
           have q670 : x8_1 < (l0.length : Int) := of_decide_eq_true (by first | (with_reducible assumption) | assumption)
           obtain ⟨ad670, e670, hx670_0⟩ := Kd.at_int HR0.out x8_1 p670 q670
           obtain rfl : ad668 = ad670 := (by injection e670)
           replace p670 := eq_true p670
           replace q670 := eq_true q670
           go_wp2
           go_roundg k1
           case measure => have := HK1.out; omega
           case rel => exact ⟨(Go.bits .or .i64 x5_1 (ji8)), (x6_1), (x13_1), (x13_1), (wrap64 (x13_1 + 1)), (by first | rfl | (simp; done) | (simp only [← hji8] <;> (first | rfl | simp)) | (simp [*]; done)), (by first | rfl | (simp; done) | (simp [*]; done)), (by first | rfl | (simp; done) | (simp [*]; done)), (by first | rfl | (simp; done) | (simp [*]; done)), (by first | rfl | (simp; done) | (simp [*]; done)), H', ⟨by have := HK1.out; omega⟩, by repeat (first | exact Drawn0.refl _ | apply Drawn0.step)⟩
          ·rw [if_neg c15] at H
           have c15b0 : decide ((rd l0 x13_1) < (rd l0 x8_1)) = false := decide_eq_false c15
           clear c15
           have H' := Aside0.mk H
           clear H
           have p668 : 0 ≤ (x13_1 : Int) := of_decide_eq_true (by first | (with_reducible assumption) | assumption)
           have q668 : x13_1 < (l0.length : Int) := of_decide_eq_true (by first | (with_reducible assumption) | assumption)
           obtain ⟨ad668, e668, hx668_0⟩ := Kd.at_int HR0.out x13_1 p668 q668
           cases e668
           replace p668 := eq_true p668
           replace q668 := eq_true q668
           have p670 : 0 ≤ (x8_1 : Int) := of_decide_eq_true (by first | (with_reducible assumption) | assumption)
           have q670 : x8_1 < (l0.length : Int) := of_decide_eq_true (by first | (with_reducible assumption) | assumption)
           obtain ⟨ad670, e670, hx670_0⟩ := Kd.at_int HR0.out x8_1 p670 q670
           obtain rfl : ad668 = ad670 := (by injection e670)
           replace p670 := eq_true p670
           replace q670 := eq_true q670
           go_wp2
           go_roundg k1
           case measure => have := HK1.out; omega
           case rel => exact ⟨(Go.bits .or .i64 x5_1 (ji8)), (x6_1), (x13_1), (x8_1), (wrap64 (x13_1 + 1)), (by first | rfl | (simp; done) | (simp only [← hji8] <;> (first | rfl | simp)) | (simp [*]; done)), (by first | rfl | (simp; done) | (simp [*]; done)), (by first | rfl | (simp; done) | (simp [*]; done)), (by first | rfl | (simp; done) | (simp [*]; done)), (by first | rfl | (simp; done) | (simp [*]; done)), H', ⟨by have := HK1.out; omega⟩, by repeat (first | exact Drawn0.refl _ | apply Drawn0.step)⟩
         ·rw [if_neg c14] at H
          exact absurd H (by simp)
        ·rw [if_neg c13] at H
         exact absurd H (by simp)
     ·rw [if_neg c5] at H
      exact absurd H (by simp)
    ·rw [if_neg c4] at H
     exact absurd H (by simp)
   ·rw [if_neg c3] at H
    have c3b0 : decide (x13_1 < (l0.length : Int)) = false := decide_eq_false c3
    clear c3
    have HC16 := Aside0.mk H
    clear H
    go_upto_region 13 with (fail)
    go_cut [36] (fun v36 wc => ∃ (kq : Nat) (x36_15 : Bool), v36 = .bool x36_15 ∧ Aside0 (impl_exchanged.j1 kq a1 x5_1 x6_1 x7_1 x8_1 x36_15 = some r) ∧ Aside0 (kq ≤ k1) ∧ Drawn0 w wc)
    case first =>
     have H := HC16.out
     clear HC16
     by_cases c17 : x5_1 = 0
     ·rw [if_pos c17] at H
      have c17b0 : (x5_1 == 0) = true := beq_iff_eq.mpr c17
      have c17b1 : (x5_1 != 0) = false := bne_eq_false_iff_eq.mpr c17
      clear c17
      (first | rw [c17b0] | (simp only [i64_w, i32_w]; rw [c17b0]) | skip)
      have H' := Aside0.mk H
      clear H
      go_wp2
      go_meet
      case rel => exact ⟨_, (true), (by first | rfl | (simp; done) | (simp [*]; done)), H', ⟨by have := HK1.out; first | omega | exact Nat.le_refl _⟩, by repeat (first | exact Drawn0.refl _ | apply Drawn0.step)⟩
     ·rw [if_neg c17] at H
      have c17b0 : (x5_1 == 0) = false := beq_eq_false_iff_ne.mpr c17
      have c17b1 : (x5_1 != 0) = true := bne_iff_ne.mpr c17
      (first | rw [c17b0] | (simp only [i64_w, i32_w]; rw [c17b0]) | skip)
      have H' := Aside0.mk H
      clear H
      go_wp2
      go_meet
      case rel => exact ⟨_, ((a1 == 3)), (by first | rfl | (simp; done) | (simp [*]; done)), H', ⟨by have := HK1.out; first | omega | exact Nat.le_refl _⟩, by repeat (first | exact Drawn0.refl _ | apply Drawn0.step)⟩
    case rest =>
     clear HC16
     try clear c1
     try clear p2
     try clear c3
     try clear c3b0
     try clear c4
     try clear c4b0
     try clear c5
     try clear c5b0
     try clear c6
     try clear c6b0
     try clear p6
     try clear q6
     try clear hx6
     try clear c7
     try clear c7b0
     try clear c9
     try clear c9b0
     try clear c10
     try clear c10b0
     try clear c11
     try clear c11b0
     try clear c12
     try clear c12b0
     try clear c13
     try clear c13b0
     try clear c14
     try clear c14b0
     try clear c15
     try clear c15b0
     try clear c17
     try clear c17b0
     try clear c17b1
     try clear hx668_0
     try clear hx669_0
     try clear hx670_0
     try clear p2
     try clear p668
     try clear p669
     try clear p670
     try clear q668
     try clear q669
     try clear q670
     obtain ⟨kq, x36_15, rfl, HA, HJ15, ⟨mc15, rfl⟩⟩ := hcut
     cases kq with
     | zero => exact absurd HA.out (by simp [impl_exchanged.j1])
     | succ kj15 =>
      have H := HA.out
      clear HA
      simp only [impl_exchanged.j1] at H
      by_cases c18 : x36_15 = true
      ·subst c18
       have H1 : (some x5_1) = some r := by rw [if_pos rfl] at H; exact H
       clear H
       have H := H1
       clear H1
       obtain rfl := Option.some.inj H
       go_wp2
       go_ret
       exact ⟨by first | rfl | (simp; done) | (simp [*]; done), by repeat (first | exact Drawn0.refl _ | apply Drawn0.step)⟩
      ·replace c18 := Bool.eq_false_iff.mpr c18
       subst c18
       have H1 : (if a1 = 0 then (if 0 ≤ x6_1 then (some (shl .i64 1 x6_1)) else (none)) else (if a1 = 1 then (if 0 ≤ x7_1 then (some (shl .i64 1 x7_1)) else (none)) else (if 0 ≤ x8_1 then (some (shl .i64 1 x8_1)) else (none)))) = some r := by rw [if_neg (show ¬ (false = true) by decide)] at H; exact H
       clear H
       have H := H1
       clear H1
       by_cases c19 : a1 = 0
       ·rw [if_pos c19] at H
        have c19b0 : (a1 == 0) = true := beq_iff_eq.mpr c19
        have c19b1 : (a1 != 0) = false := bne_eq_false_iff_eq.mpr c19
        clear c19
        by_cases c20 : 0 ≤ x6_1
        ·rw [if_pos c20] at H
         have c20b0 := eq_true c20
         have c20b1 : decide (0 ≤ x6_1) = true := decide_eq_true c20
         clear c20
         obtain ⟨ji21, hji21⟩ : ∃ j_ : Int, (shl .i64 1 x6_1) = j_ := ⟨_, rfl⟩
         replace H : (some ji21) = some r := by first | (rw [hji21] at H; exact H) | (simp only [hji21] at H ⊢; exact H)
         have hji21_ : (IntKind.i64.wrap (1 * 2 ^ min x6_1.toNat 64)) = ji21 := hji21
         have hji21z : x6_1 ≤ 64 → (IntKind.i64.wrap (1 * 2 ^ x6_1.toNat)) = ji21 := shl_small hji21
         have hji21u : (IntKind.i64.wrap (2 ^ min x6_1.toNat 64)) = ji21 := by have h_ := hji21_; rw [Int.one_mul] at h_; exact h_
         have hji21v : x6_1 ≤ 64 → (IntKind.i64.wrap (2 ^ x6_1.toNat)) = ji21 := fun hle_ => by have h_ := hji21z hle_; rw [Int.one_mul] at h_; exact h_
         have hji21y : (wrap64 (1 * 2 ^ min x6_1.toNat 64)) = ji21 := (i64_w _).symm.trans hji21_
         have hji21x : x6_1 ≤ 64 → (wrap64 (1 * 2 ^ x6_1.toNat)) = ji21 := fun h_ => (i64_w _).symm.trans (hji21z h_)
         obtain rfl := Option.some.inj H
         go_wp2
         go_ret
         exact ⟨by first | rfl | (simp; done) | (simp only [← hji21] <;> (first | rfl | simp)) | (simp [*]; done), by repeat (first | exact Drawn0.refl _ | apply Drawn0.step)⟩
        ·rw [if_neg c20] at H
         exact absurd H (by simp)
       ·rw [if_neg c19] at H
        have c19b0 : (a1 == 0) = false := beq_eq_false_iff_ne.mpr c19
        have c19b1 : (a1 != 0) = true := bne_iff_ne.mpr c19
        by_cases c22 : a1 = 1
        ·rw [if_pos c22] at H
         have c22b0 : (a1 == 1) = true := beq_iff_eq.mpr c22
         have c22b1 : (a1 != 1) = false := bne_eq_false_iff_eq.mpr c22
         clear c22
         by_cases c23 : 0 ≤ x7_1
         ·rw [if_pos c23] at H
          have c23b0 := eq_true c23
          have c23b1 : decide (0 ≤ x7_1) = true := decide_eq_true c23
          clear c23
          obtain ⟨ji24, hji24⟩ : ∃ j_ : Int, (shl .i64 1 x7_1) = j_ := ⟨_, rfl⟩
          replace H : (some ji24) = some r := by first | (rw [hji24] at H; exact H) | (simp only [hji24] at H ⊢; exact H)
          have hji24_ : (IntKind.i64.wrap (1 * 2 ^ min x7_1.toNat 64)) = ji24 := hji24
          have hji24z : x7_1 ≤ 64 → (IntKind.i64.wrap (1 * 2 ^ x7_1.toNat)) = ji24 := shl_small hji24
          have hji24u : (IntKind.i64.wrap (2 ^ min x7_1.toNat 64)) = ji24 := by have h_ := hji24_; rw [Int.one_mul] at h_; exact h_
          have hji24v : x7_1 ≤ 64 → (IntKind.i64.wrap (2 ^ x7_1.toNat)) = ji24 := fun hle_ => by have h_ := hji24z hle_; rw [Int.one_mul] at h_; exact h_
          have hji24y : (wrap64 (1 * 2 ^ min x7_1.toNat 64)) = ji24 := (i64_w _).symm.trans hji24_
          have hji24x : x7_1 ≤ 64 → (wrap64 (1 * 2 ^ x7_1.toNat)) = ji24 := fun h_ => (i64_w _).symm.trans (hji24z h_)
          obtain rfl := Option.some.inj H
          go_wp2
          go_ret
          exact ⟨by first | rfl | (simp; done) | (simp only [← hji24] <;> (first | rfl | simp)) | (simp [*]; done), by repeat (first | exact Drawn0.refl _ | apply Drawn0.step)⟩
         ·rw [if_neg c23] at H
          exact absurd H (by simp)
        ·rw [if_neg c22] at H
         have c22b0 : (a1 == 1) = false := beq_eq_false_iff_ne.mpr c22
         have c22b1 : (a1 != 1) = true := bne_iff_ne.mpr c22
         by_cases c25 : 0 ≤ x8_1
         ·rw [if_pos c25] at H
          have c25b0 := eq_true c25
          have c25b1 : decide (0 ≤ x8_1) = true := decide_eq_true c25
          clear c25
          obtain ⟨ji26, hji26⟩ : ∃ j_ : Int, (shl .i64 1 x8_1) = j_ := ⟨_, rfl⟩
          replace H : (some ji26) = some r := by first | (rw [hji26] at H; exact H) | (simp only [hji26] at H ⊢; exact H)
          have hji26_ : (IntKind.i64.wrap (1 * 2 ^ min x8_1.toNat 64)) = ji26 := hji26
          have hji26z : x8_1 ≤ 64 → (IntKind.i64.wrap (1 * 2 ^ x8_1.toNat)) = ji26 := shl_small hji26
          have hji26u : (IntKind.i64.wrap (2 ^ min x8_1.toNat 64)) = ji26 := by have h_ := hji26_; rw [Int.one_mul] at h_; exact h_
          have hji26v : x8_1 ≤ 64 → (IntKind.i64.wrap (2 ^ x8_1.toNat)) = ji26 := fun hle_ => by have h_ := hji26z hle_; rw [Int.one_mul] at h_; exact h_
          have hji26y : (wrap64 (1 * 2 ^ min x8_1.toNat 64)) = ji26 := (i64_w _).symm.trans hji26_
          have hji26x : x8_1 ≤ 64 → (wrap64 (1 * 2 ^ x8_1.toNat)) = ji26 := fun h_ => (i64_w _).symm.trans (hji26z h_)
          obtain rfl := Option.some.inj H
          go_wp2
          go_ret
          exact ⟨by first | rfl | (simp; done) | (simp only [← hji26] <;> (first | rfl | simp)) | (simp [*]; done), by repeat (first | exact Drawn0.refl _ | apply Drawn0.step)⟩
         ·rw [if_neg c25] at H
          exact absurd H (by simp)
def impl_Problem_walk.l0 : Nat → Int → Int → List Int → List (List Int) → List Int → Option (List Int × Int)
 | 0, _, _, _, _, _ => none
 | k + 1, x1, x2, x8, x672000, x672001 => (slices_Contains_int64_int64.f k x8 x1).bind fun t672 => (if x8.length < 17592186044416 then ((some (x8 ++ [x1] : List Int)).bind fun y673 => ((impl_Problem_point.f k x672000 x672001 x1).bind fun bt676 => (if bt676.2.2 = true then (if t672 = true then (some (y673, 2)) else ((impl_exchanged.f k bt676.1 x2).bind fun t681 => (if t681 = 0 then (some (y673, 0)) else (impl_Problem_walk.l0 k (Go.bits .xor .i64 x1 t681) x2 y673 x672000 x672001)))) else (some (y673, 1))))) else (none))
def impl_Problem_walk.f (k : Nat) (l0_0 : List (List Int)) (l0_1 : List Int) (a1 : Int) (a2 : Int) : Option (List Int × Int) := impl_Problem_walk.l0 k a1 a2 ([] : List Int) l0_0 l0_1
theorem impl_Problem_walk.mono_l : ∀ k, (∀ y0 y1 y2 y3 y4, LeO (impl_Problem_walk.l0 k y0 y1 y2 y3 y4) (impl_Problem_walk.l0 (k + 1) y0 y1 y2 y3 y4))
 | 0 => fun _ _ _ _ _ r h => by simp [impl_Problem_walk.l0] at h
 | k + 1 => by
  have ih0 := impl_Problem_walk.mono_l k
  ·intro y0 y1 y2 y3 y4
   unfold impl_Problem_walk.l0
   repeat' first
   | (with_reducible exact ih0 _ _ _ _ _)
   | (with_reducible exact impl_Problem_point.mono _ _ _ _)
   | (with_reducible exact impl_exchanged.mono _ _ _)
   | (with_reducible exact slices_Contains_int64_int64.mono _ _ _)
   | (with_reducible exact LeO.refl _)
   | (with_reducible exact LeO.none _)
   | (with_reducible refine LeO.ite ?_ ?_)
   | (with_reducible refine LeO.bind ?_ (fun _ => ?_))
   | exact ih0 _ _ _ _ _
   | exact impl_Problem_point.mono _ _ _ _
   | exact impl_exchanged.mono _ _ _
   | exact slices_Contains_int64_int64.mono _ _ _
   | exact LeO.none _
   | refine LeO.ite ?_ ?_
   | refine LeO.bind ?_ (fun _ => ?_)
theorem impl_Problem_walk.mono : ∀ a0 a1 a2 a3 k, LeO (impl_Problem_walk.f k a0 a1 a2 a3) (impl_Problem_walk.f (k + 1) a0 a1 a2 a3) := by
 intro a0 a1 a2 a3 k
 have ih0 := impl_Problem_walk.mono_l k
 unfold impl_Problem_walk.f
 repeat' first
   | (with_reducible exact ih0 _ _ _ _ _)
   | (with_reducible exact impl_Problem_point.mono _ _ _ _)
   | (with_reducible exact impl_exchanged.mono _ _ _)
   | (with_reducible exact slices_Contains_int64_int64.mono _ _ _)
   | (with_reducible exact LeO.refl _)
   | (with_reducible exact LeO.none _)
   | (with_reducible refine LeO.ite ?_ ?_)
   | (with_reducible refine LeO.bind ?_ (fun _ => ?_))
   | exact ih0 _ _ _ _ _
   | exact impl_Problem_point.mono _ _ _ _
   | exact impl_exchanged.mono _ _ _
   | exact slices_Contains_int64_int64.mono _ _ _
   | exact LeO.none _
   | refine LeO.ite ?_ ?_
   | refine LeO.bind ?_ (fun _ => ?_)
theorem impl_Problem_walk.calls (k : Nat) (A0_0 : Option Addr) (c0_0 : Nat) (l0_0 : List (List Int)) (A0_1 : Option Addr) (c0_1 : Nat) (l0_1 : List Int) (a1 : Int) (a2 : Int) (r1 : List Int) (r2 : Int) (w : World) (hr0_0 : Kd.C (Kd.slice 2 (Kd.int .i64)) w A0_0 l0_0.length l0_0) (hc0_0 : l0_0.length ≤ c0_0) (hr0_1 : Kd.C (Kd.int .i64) w A0_1 l0_1.length l0_1) (hc0_1 : l0_1.length ≤ c0_1) (h : impl_Problem_walk.f k l0_0 l0_1 a1 a2 = some (r1, r2)) :
  Calls Try.prog 81 #[.agg #[.slice A0_0 l0_0.length c0_0, .slice A0_1 l0_1.length c0_1], .int .i64 a1, .int .i64 a2] w fun e w' => ∃ v0_ : Value, e = .returned (.tuple #[v0_, .int .i64 r2]) ∧ Kd.R (Kd.int .i64) 2 w' w.heap.size (fun _ => True) v0_ r1 ∧ Below w.heap.size w w' := by
 have hu29 := Try.underlying29
 have HR0_0 := Aside0.mk hr0_0
 have HC0_0 := Aside0.mk hc0_0
 clear hr0_0 hc0_0
 have HR0_1 := Aside0.mk hr0_1
 have HC0_1 := Aside0.mk hc0_1
 clear hr0_1 hc0_1
 have HB := Aside0.mk (Below.refl w.heap.size w)
 have H : (impl_Problem_walk.l0 k a1 a2 ([] : List Int) l0_0 l0_1) = some (r1, r2) := h
 clear h
 have H' := Aside0.mk H
 clear H
 go_enter Try.func81, Try.ntmps81
 go_wp2_with (first | ((with_reducible refine gate_dst (N := 3) rfl ?_); refine box_event ?hg (N := 3) ?hd (cs := #[.slice A0_0 l0_0.length c0_0, .slice A0_1 l0_1.length c0_1]) (t := 29) ?hr ?_; (case hd => rfl); (case hg => rfl); (case hr => first | (go_simp; done) | (go_simp; rfl)); intro gb671 hg w4 hbox hb; have n0_ := Aside0.mk (below_step (by repeat (first | (with_reducible first | exact HB.out | apply below_alloc | apply pw_below_drewN | apply below_drew1) | exact HB.out)) hb); have n1_ := Aside0.mk (hbox); have n2_ := Aside0.mk ((by rw [hg]; exact (below_size (by repeat (first | (with_reducible first | exact HB.out | apply below_alloc | apply pw_below_drewN | apply below_drew1) | exact HB.out))) : w.heap.size ≤ gb671)); have n3_ := Aside0.mk ((by rw [hg]; exact (below_size (by repeat (first | (with_reducible first | exact HB.out | apply below_alloc | apply pw_below_drewN | apply below_drew1) | exact HB.out))) : w.heap.size ≤ gb671)); clear HB; have HB := n0_; have BK671 := n1_; have GW671 := n2_; have GE671 := n3_; clear n0_ n1_ n2_ n3_; clear hb hbox hg))
 go_loopg [1, 8] k (fun kq v1 v8 w' => ∃ (x1_1 : Int) (x8_1 : List Int), v1 = .int .i64 x1_1 ∧ Aside0 (impl_Problem_walk.l0 kq x1_1 a2 x8_1 l0_0 l0_1 = some (r1, r2)) ∧ Aside0 (kq ≤ k) ∧ Aside0 (Kd.R (Kd.int .i64) 2 w' w.heap.size (fun _ => True) v8 x8_1) ∧ Aside0 (w'.heap[gb671]? = some (.cells #[(.slice A0_0 l0_0.length c0_0), (.slice A0_1 l0_1.length c0_1)] 29 (0, 0))) ∧ Aside0 (Below w.heap.size w w'))
 case atStart => exact ⟨(a1), (([] : List Int)), (by first | rfl | (simp; done) | (simp [*]; done)), H', ⟨Nat.le_refl _⟩, ⟨by first | exact Kd.R_nil _ _ _ _ _ | exact Kd.N_nil _ _ _ _ _ | exact Kd.V_nil _ _ _ _ _ | exact Kd.Q_nil _ _ _ _ _ | exact Kd.S_nil _ _ _ _ _⟩, ⟨by (with_reducible repeat (first | refine blk_drewN ?_ _ | refine blk_drew ?_ | refine blk_alloc ?_ _)); exact BK671.out⟩, ⟨by repeat (first | (with_reducible first | exact HB.out | apply below_alloc | apply pw_below_drewN | apply below_drew1 | refine below_set ?_ GE671.out) | exact HB.out)⟩⟩
 case round =>
  clear H'
  try clear p2
  obtain ⟨x1_1, x8_1, rfl, HA, HK1, HO_8, BK671, HB⟩ := hrel
  cases gk with
  | zero => exact absurd HA.out (by simp [impl_Problem_walk.l0])
  | succ k1 =>
   have H := HA.out
   clear HA
   simp only [impl_Problem_walk.l0] at H
   replace H := Option.bind_eq_some_iff.mp H
   obtain ⟨t672, A50, H⟩ := H
   replace H : (if x8_1.length < 17592186044416 then ((some (x8_1 ++ [x1_1] : List Int)).bind fun y673 => ((impl_Problem_point.f k1 l0_0 l0_1 x1_1).bind fun bt676 => (if bt676.2.2 = true then (if t672 = true then (some (y673, 2)) else ((impl_exchanged.f k1 bt676.1 a2).bind fun t681 => (if t681 = 0 then (some (y673, 0)) else (impl_Problem_walk.l0 k1 (Go.bits .xor .i64 x1_1 t681) a2 y673 l0_0 l0_1)))) else (some (y673, 1))))) else (none)) = some (r1, r2) := H
   have A5 := Aside0.mk A50
   clear A50
   by_cases c6 : x8_1.length < 17592186044416
   ·rw [if_pos c6] at H
    have LMc6 := Aside0.mk c6
    clear c6
    obtain ⟨y673, hy673⟩ : ∃ y_ : List Int, y_ = (x8_1 ++ [x1_1]) := ⟨_, rfl⟩
    replace H : ((impl_Problem_point.f k1 l0_0 l0_1 x1_1).bind fun bt676 => (if bt676.2.2 = true then (if t672 = true then (some (y673, 2)) else ((impl_exchanged.f k1 bt676.1 a2).bind fun t681 => (if t681 = 0 then (some (y673, 0)) else (impl_Problem_walk.l0 k1 (Go.bits .xor .i64 x1_1 t681) a2 y673 l0_0 l0_1)))) else (some (y673, 1)))) = some (r1, r2) := by first | (rw [hy673]; with_reducible exact H) | (have H2_ := (Option.bind_some _ _).symm.trans H; rw [hy673]; with_reducible exact H2_) | (have H2_ := (Option.bind_some _ _).symm.trans H; with_reducible exact H2_) | with_reducible exact H | (rw [hy673]; exact H) | exact H
    have Ny673 := Aside0.mk hy673
    clear hy673
    replace H := Option.bind_eq_some_iff.mp H
    obtain ⟨⟨t676, t679, t680⟩, A70, H⟩ := H
    replace H : (if t680 = true then (if t672 = true then (some (y673, 2)) else ((impl_exchanged.f k1 t676 a2).bind fun t681 => (if t681 = 0 then (some (y673, 0)) else (impl_Problem_walk.l0 k1 (Go.bits .xor .i64 x1_1 t681) a2 y673 l0_0 l0_1)))) else (some (y673, 1))) = some (r1, r2) := H
    have A7 := Aside0.mk A70
    clear A70
    by_cases c8 : t680 = true
    ·subst c8
     have H1 : (if t672 = true then (some (y673, 2)) else ((impl_exchanged.f k1 t676 a2).bind fun t681 => (if t681 = 0 then (some (y673, 0)) else (impl_Problem_walk.l0 k1 (Go.bits .xor .i64 x1_1 t681) a2 y673 l0_0 l0_1)))) = some (r1, r2) := by rw [if_pos rfl] at H; exact H
     clear H
     have H := H1
     clear H1
     by_cases c9 : t672 = true
     ·subst c9
      have H1 : (some (y673, 2)) = some (r1, r2) := by rw [if_pos rfl] at H; exact H
      clear H
      have H := H1
      clear H1
      simp only [Option.some.injEq, Prod.mk.injEq] at H
      obtain ⟨rfl, rfl⟩ := H
      obtain ⟨Ao10, co10, eo10⟩ := Kd.R_slice HO_8.out
      subst eo10
      go_wp2_with (first | ((with_reducible refine gate_callee (f := 72) rfl ?_); refine goesL_ (some 16) rfl rfl Try.func72 (by kernel_rfl) rfl #[.slice Ao10 x8_1.length co10, .int .i64 x1_1] rfl (by (try simp only [List.map_toArray, List.map_cons, List.map_nil]); first | done | rfl | (simp only [List.length_drop, List.length_take]; rfl)) ?_; (with_reducible refine (slices_Contains_int64_int64.calls k1 _ _ x8_1 x1_1 true _ ?side1 ?side2 A5.out).mono ?_); (case side1 => repeat (first | exact (Kd.R_reads' HO_8.out).2.2 | (with_reducible refine Kd.C_alloc ?_ _) | (with_reducible refine Kd.C_drewN ?_ _) | (with_reducible refine Kd.C_drew ?_))); (case side2 => exact (Kd.R_reads' HO_8.out).2.1); rintro e w' ⟨rfl, ⟨nd, rfl⟩⟩; refine ⟨_, rfl, ?_⟩) | ((with_reducible refine gate_builtin (b := .append) (xs := #[.tmp 17, .tmp 19]) rfl ?_); at_builtin; refine Kd.R_append (Kd.int .i64) (w0 := w) w.heap.size rfl (.tmp 17) (.tmp 19) 23 2 (.int .i64 0) 8 rfl Try.underlying23 info2 rfl (by decide) (by omega) (.slice Ao10 x8_1.length co10) x8_1 x1_1 [.int .i64 x1_1] (fun _ => True) (fun _ => False) rfl rfl ?aP (fun _ hk => hk.elim) ?aF ?aO ?aB ?aS ?aL ?_; (case aP => exact rfl); (case aB => exact (by repeat (first | (with_reducible first | exact HB.out | apply below_alloc | apply pw_below_drewN | apply below_drew1 | refine below_set ?_ GE671.out) | exact HB.out))); (case aF => exact (fun _ _ => trivial)); (case aO => exact (by (with_reducible repeat (first | apply Kd.R_alloc | apply Kd.R_drewN | apply Kd.R_drew)); exact HO_8.out)); (case aS => exact (below_size (by repeat (first | (with_reducible first | exact HB.out | apply below_alloc | apply pw_below_drewN | apply below_drew1 | refine below_set ?_ GE671.out) | exact HB.out)))); (case aL => have := LMc6.out; omega); intro v674 w11 ho hb hg hat; rw [← Ny673.out] at ho; have n0_ := Aside0.mk (blk_grown (g := gb671) (o := .cells #[.slice A0_0 l0_0.length c0_0, .slice A0_1 l0_1.length c0_1] 29 (0, 0)) (by (with_reducible repeat (first | refine blk_drewN ?_ _ | refine blk_drew ?_ | refine blk_alloc ?_ _)); exact BK671.out) hg (Kd.R_ne HO_8.out BK671.out (by decide))); have n1_ := Aside0.mk (hb); have n2_ := Aside0.mk (ho); clear BK671; clear HB; clear HO_8; have BK671 := n0_; have HB := n1_; have HO675 := n2_; clear n0_ n1_ n2_; clear ho hb hg hat; have hcz12_0 : w11.cell? ⟨gb671, 0, none⟩ = some (.slice A0_0 l0_0.length c0_0) := (blk_cell BK671.out 0).trans rfl; have hcz12_1 : w11.cell? ⟨gb671, 1, none⟩ = some (.slice A0_1 l0_1.length c0_1) := (blk_cell BK671.out 1).trans rfl; have hfz12_0 := blk_frozen BK671.out 0; have hfz12_1 := blk_frozen BK671.out 1) | ((with_reducible refine gate_callee (f := 71) rfl ?_); refine goesL_ (some 24) rfl rfl Try.func71 (by kernel_rfl) rfl #[.agg #[.slice A0_0 l0_0.length c0_0, .slice A0_1 l0_1.length c0_1], .int .i64 x1_1] rfl (by (try simp only [List.map_toArray, List.map_cons, List.map_nil]); first | done | rfl | (simp only [List.length_drop, List.length_take]; rfl)) ?_; (with_reducible refine (impl_Problem_point.calls k1 _ _ l0_0 _ _ l0_1 x1_1 t676 t679 true _ ?side1 ?side2 ?side3 ?side4 A7.out).mono ?_); (case side1 => repeat (first | exact (Kd.C_below HR0_0.out HB.out) | (with_reducible refine Kd.C_alloc ?_ _) | (with_reducible refine Kd.C_drewN ?_ _) | (with_reducible refine Kd.C_drew ?_))); (case side2 => exact HC0_0.out); (case side3 => repeat (first | exact (Kd.C_below HR0_1.out HB.out) | (with_reducible refine Kd.C_alloc ?_ _) | (with_reducible refine Kd.C_drewN ?_ _) | (with_reducible refine Kd.C_drew ?_))); (case side4 => exact HC0_1.out); rintro e w13 ⟨v677, rfl, ho0, hb⟩; refine ⟨_, rfl, ?_⟩; have n0_ := Aside0.mk (Kd.R_elder' (by (with_reducible repeat (first | apply Kd.R_alloc | apply Kd.R_drewN | apply Kd.R_drew)); exact HO675.out) (Kd.R_base ho0) hb); have n1_ := Aside0.mk (Kd.R_lower (Kd.R_new' ho0 (Kd.R_lt (by (with_reducible repeat (first | apply Kd.R_alloc | apply Kd.R_drewN | apply Kd.R_drew)); exact HO675.out))) (below_size (by repeat (first | (with_reducible first | exact HB.out | apply below_alloc | apply pw_below_drewN | apply below_drew1 | refine below_set ?_ GE671.out) | exact HB.out)))); have n2_ := Aside0.mk (blk_below (g := gb671) (o := .cells #[.slice A0_0 l0_0.length c0_0, .slice A0_1 l0_1.length c0_1] 29 (0, 0)) (by (with_reducible repeat (first | refine blk_drewN ?_ _ | refine blk_drew ?_ | refine blk_alloc ?_ _)); exact BK671.out) hb); have n3_ := Aside0.mk (below_step (by repeat (first | (with_reducible first | exact HB.out | apply below_alloc | apply pw_below_drewN | apply below_drew1 | refine below_set ?_ GE671.out) | exact HB.out)) hb); clear HO675; clear BK671; clear HB; have HO675 := n0_; have HO678 := n1_; have BK671 := n2_; have HB := n3_; clear n0_ n1_ n2_ n3_; (try clear hb); (try clear hb2); (try clear hk); (try clear hi); (try clear ho0)))
      go_ret2
      exact ⟨_, by first | rfl | (simp [errW_none, errW_some] <;> rfl) | (simp [*, errW_none, errW_some] <;> rfl), by (with_reducible repeat (first | apply Kd.R_alloc | apply Kd.R_drewN | apply Kd.R_drew)); exact Kd.R_mono HO675.out (fun _ hk => trivial), by repeat (first | (with_reducible first | exact HB.out | apply below_alloc | apply pw_below_drewN | apply below_drew1 | refine below_set ?_ GE671.out) | exact HB.out)⟩
     ·replace c9 := Bool.eq_false_iff.mpr c9
      subst c9
      have H1 : ((impl_exchanged.f k1 t676 a2).bind fun t681 => (if t681 = 0 then (some (y673, 0)) else (impl_Problem_walk.l0 k1 (Go.bits .xor .i64 x1_1 t681) a2 y673 l0_0 l0_1))) = some (r1, r2) := by rw [if_neg (show ¬ (false = true) by decide)] at H; exact H
      clear H
      have H := H1
      clear H1
      replace H := Option.bind_eq_some_iff.mp H
      obtain ⟨t681, A140, H⟩ := H
      replace H : (if t681 = 0 then (some (y673, 0)) else (impl_Problem_walk.l0 k1 (Go.bits .xor .i64 x1_1 t681) a2 y673 l0_0 l0_1)) = some (r1, r2) := H
      have A14 := Aside0.mk A140
      clear A140
      by_cases c15 : t681 = 0
      ·rw [if_pos c15] at H
       have c15b0 : (t681 == 0) = true := beq_iff_eq.mpr c15
       have c15b1 : (t681 != 0) = false := bne_eq_false_iff_eq.mpr c15
       clear c15
       simp only [Option.some.injEq, Prod.mk.injEq] at H
       obtain ⟨rfl, rfl⟩ := H
       obtain ⟨Ao16, co16, eo16⟩ := Kd.R_slice HO_8.out
       subst eo16
       go_wp2_with (first | ((with_reducible refine gate_callee (f := 72) rfl ?_); refine goesL_ (some 16) rfl rfl Try.func72 (by kernel_rfl) rfl #[.slice Ao16 x8_1.length co16, .int .i64 x1_1] rfl (by (try simp only [List.map_toArray, List.map_cons, List.map_nil]); first | done | rfl | (simp only [List.length_drop, List.length_take]; rfl)) ?_; (with_reducible refine (slices_Contains_int64_int64.calls k1 _ _ x8_1 x1_1 false _ ?side1 ?side2 A5.out).mono ?_); (case side1 => repeat (first | exact (Kd.R_reads' HO_8.out).2.2 | (with_reducible refine Kd.C_alloc ?_ _) | (with_reducible refine Kd.C_drewN ?_ _) | (with_reducible refine Kd.C_drew ?_))); (case side2 => exact (Kd.R_reads' HO_8.out).2.1); rintro e w' ⟨rfl, ⟨nd, rfl⟩⟩; refine ⟨_, rfl, ?_⟩) | ((with_reducible refine gate_builtin (b := .append) (xs := #[.tmp 17, .tmp 19]) rfl ?_); at_builtin; refine Kd.R_append (Kd.int .i64) (w0 := w) w.heap.size rfl (.tmp 17) (.tmp 19) 23 2 (.int .i64 0) 8 rfl Try.underlying23 info2 rfl (by decide) (by omega) (.slice Ao16 x8_1.length co16) x8_1 x1_1 [.int .i64 x1_1] (fun _ => True) (fun _ => False) rfl rfl ?aP (fun _ hk => hk.elim) ?aF ?aO ?aB ?aS ?aL ?_; (case aP => exact rfl); (case aB => exact (by repeat (first | (with_reducible first | exact HB.out | apply below_alloc | apply pw_below_drewN | apply below_drew1 | refine below_set ?_ GE671.out) | exact HB.out))); (case aF => exact (fun _ _ => trivial)); (case aO => exact (by (with_reducible repeat (first | apply Kd.R_alloc | apply Kd.R_drewN | apply Kd.R_drew)); exact HO_8.out)); (case aS => exact (below_size (by repeat (first | (with_reducible first | exact HB.out | apply below_alloc | apply pw_below_drewN | apply below_drew1 | refine below_set ?_ GE671.out) | exact HB.out)))); (case aL => have := LMc6.out; omega); intro v674 w17 ho hb hg hat; rw [← Ny673.out] at ho; have n0_ := Aside0.mk (blk_grown (g := gb671) (o := .cells #[.slice A0_0 l0_0.length c0_0, .slice A0_1 l0_1.length c0_1] 29 (0, 0)) (by (with_reducible repeat (first | refine blk_drewN ?_ _ | refine blk_drew ?_ | refine blk_alloc ?_ _)); exact BK671.out) hg (Kd.R_ne HO_8.out BK671.out (by decide))); have n1_ := Aside0.mk (hb); have n2_ := Aside0.mk (ho); clear BK671; clear HB; clear HO_8; have BK671 := n0_; have HB := n1_; have HO675 := n2_; clear n0_ n1_ n2_; clear ho hb hg hat; have hcz18_0 : w17.cell? ⟨gb671, 0, none⟩ = some (.slice A0_0 l0_0.length c0_0) := (blk_cell BK671.out 0).trans rfl; have hcz18_1 : w17.cell? ⟨gb671, 1, none⟩ = some (.slice A0_1 l0_1.length c0_1) := (blk_cell BK671.out 1).trans rfl; have hfz18_0 := blk_frozen BK671.out 0; have hfz18_1 := blk_frozen BK671.out 1) | ((with_reducible refine gate_callee (f := 71) rfl ?_); refine goesL_ (some 24) rfl rfl Try.func71 (by kernel_rfl) rfl #[.agg #[.slice A0_0 l0_0.length c0_0, .slice A0_1 l0_1.length c0_1], .int .i64 x1_1] rfl (by (try simp only [List.map_toArray, List.map_cons, List.map_nil]); first | done | rfl | (simp only [List.length_drop, List.length_take]; rfl)) ?_; (with_reducible refine (impl_Problem_point.calls k1 _ _ l0_0 _ _ l0_1 x1_1 t676 t679 true _ ?side1 ?side2 ?side3 ?side4 A7.out).mono ?_); (case side1 => repeat (first | exact (Kd.C_below HR0_0.out HB.out) | (with_reducible refine Kd.C_alloc ?_ _) | (with_reducible refine Kd.C_drewN ?_ _) | (with_reducible refine Kd.C_drew ?_))); (case side2 => exact HC0_0.out); (case side3 => repeat (first | exact (Kd.C_below HR0_1.out HB.out) | (with_reducible refine Kd.C_alloc ?_ _) | (with_reducible refine Kd.C_drewN ?_ _) | (with_reducible refine Kd.C_drew ?_))); (case side4 => exact HC0_1.out); rintro e w19 ⟨v677, rfl, ho0, hb⟩; refine ⟨_, rfl, ?_⟩; have n0_ := Aside0.mk (Kd.R_elder' (by (with_reducible repeat (first | apply Kd.R_alloc | apply Kd.R_drewN | apply Kd.R_drew)); exact HO675.out) (Kd.R_base ho0) hb); have n1_ := Aside0.mk (Kd.R_lower (Kd.R_new' ho0 (Kd.R_lt (by (with_reducible repeat (first | apply Kd.R_alloc | apply Kd.R_drewN | apply Kd.R_drew)); exact HO675.out))) (below_size (by repeat (first | (with_reducible first | exact HB.out | apply below_alloc | apply pw_below_drewN | apply below_drew1 | refine below_set ?_ GE671.out) | exact HB.out)))); have n2_ := Aside0.mk (blk_below (g := gb671) (o := .cells #[.slice A0_0 l0_0.length c0_0, .slice A0_1 l0_1.length c0_1] 29 (0, 0)) (by (with_reducible repeat (first | refine blk_drewN ?_ _ | refine blk_drew ?_ | refine blk_alloc ?_ _)); exact BK671.out) hb); have n3_ := Aside0.mk (below_step (by repeat (first | (with_reducible first | exact HB.out | apply below_alloc | apply pw_below_drewN | apply below_drew1 | refine below_set ?_ GE671.out) | exact HB.out)) hb); clear HO675; clear BK671; clear HB; have HO675 := n0_; have HO678 := n1_; have BK671 := n2_; have HB := n3_; clear n0_ n1_ n2_ n3_; (try clear hb); (try clear hb2); (try clear hk); (try clear hi); (try clear ho0); obtain ⟨Ao20, co20, eo20⟩ := Kd.R_slice HO678.out; subst eo20) | ((with_reducible refine gate_callee (f := 112) rfl ?_); refine goesL_ (some 37) rfl rfl Try.func112 (by kernel_rfl) rfl #[.slice Ao20 t676.length co20, .int .i64 a2] rfl (by (try simp only [List.map_toArray, List.map_cons, List.map_nil]); first | done | rfl | (simp only [List.length_drop, List.length_take]; rfl)) ?_; (with_reducible refine (impl_exchanged.calls k1 _ _ t676 a2 t681 _ ?side1 ?side2 A14.out).mono ?_); (case side1 => repeat (first | exact (Kd.R_reads' HO678.out).2.2 | (with_reducible refine Kd.C_alloc ?_ _) | (with_reducible refine Kd.C_drewN ?_ _) | (with_reducible refine Kd.C_drew ?_))); (case side2 => exact (Kd.R_reads' HO678.out).2.1); rintro e w' ⟨rfl, ⟨nd, rfl⟩⟩; refine ⟨_, rfl, ?_⟩))
       go_ret2
       exact ⟨_, by first | rfl | (simp [errW_none, errW_some] <;> rfl) | (simp [*, errW_none, errW_some] <;> rfl), by (with_reducible repeat (first | apply Kd.R_alloc | apply Kd.R_drewN | apply Kd.R_drew)); exact Kd.R_mono HO675.out (fun _ hk => trivial), by repeat (first | (with_reducible first | exact HB.out | apply below_alloc | apply pw_below_drewN | apply below_drew1 | refine below_set ?_ GE671.out) | exact HB.out)⟩
      ·rw [if_neg c15] at H
       have c15b0 : (t681 == 0) = false := beq_eq_false_iff_ne.mpr c15
       have c15b1 : (t681 != 0) = true := bne_iff_ne.mpr c15
       have H' := Aside0.mk H
       clear H
       obtain ⟨Ao21, co21, eo21⟩ := Kd.R_slice HO_8.out
       subst eo21
       go_wp2_with (first | ((with_reducible refine gate_callee (f := 72) rfl ?_); refine goesL_ (some 16) rfl rfl Try.func72 (by kernel_rfl) rfl #[.slice Ao21 x8_1.length co21, .int .i64 x1_1] rfl (by (try simp only [List.map_toArray, List.map_cons, List.map_nil]); first | done | rfl | (simp only [List.length_drop, List.length_take]; rfl)) ?_; (with_reducible refine (slices_Contains_int64_int64.calls k1 _ _ x8_1 x1_1 false _ ?side1 ?side2 A5.out).mono ?_); (case side1 => repeat (first | exact (Kd.R_reads' HO_8.out).2.2 | (with_reducible refine Kd.C_alloc ?_ _) | (with_reducible refine Kd.C_drewN ?_ _) | (with_reducible refine Kd.C_drew ?_))); (case side2 => exact (Kd.R_reads' HO_8.out).2.1); rintro e w' ⟨rfl, ⟨nd, rfl⟩⟩; refine ⟨_, rfl, ?_⟩) | ((with_reducible refine gate_builtin (b := .append) (xs := #[.tmp 17, .tmp 19]) rfl ?_); at_builtin; refine Kd.R_append (Kd.int .i64) (w0 := w) w.heap.size rfl (.tmp 17) (.tmp 19) 23 2 (.int .i64 0) 8 rfl Try.underlying23 info2 rfl (by decide) (by omega) (.slice Ao21 x8_1.length co21) x8_1 x1_1 [.int .i64 x1_1] (fun _ => True) (fun _ => False) rfl rfl ?aP (fun _ hk => hk.elim) ?aF ?aO ?aB ?aS ?aL ?_; (case aP => exact rfl); (case aB => exact (by repeat (first | (with_reducible first | exact HB.out | apply below_alloc | apply pw_below_drewN | apply below_drew1 | refine below_set ?_ GE671.out) | exact HB.out))); (case aF => exact (fun _ _ => trivial)); (case aO => exact (by (with_reducible repeat (first | apply Kd.R_alloc | apply Kd.R_drewN | apply Kd.R_drew)); exact HO_8.out)); (case aS => exact (below_size (by repeat (first | (with_reducible first | exact HB.out | apply below_alloc | apply pw_below_drewN | apply below_drew1 | refine below_set ?_ GE671.out) | exact HB.out)))); (case aL => have := LMc6.out; omega); intro v674 w22 ho hb hg hat; rw [← Ny673.out] at ho; have n0_ := Aside0.mk (blk_grown (g := gb671) (o := .cells #[.slice A0_0 l0_0.length c0_0, .slice A0_1 l0_1.length c0_1] 29 (0, 0)) (by (with_reducible repeat (first | refine blk_drewN ?_ _ | refine blk_drew ?_ | refine blk_alloc ?_ _)); exact BK671.out) hg (Kd.R_ne HO_8.out BK671.out (by decide))); have n1_ := Aside0.mk (hb); have n2_ := Aside0.mk (ho); clear BK671; clear HB; clear HO_8; have BK671 := n0_; have HB := n1_; have HO675 := n2_; clear n0_ n1_ n2_; clear ho hb hg hat; have hcz23_0 : w22.cell? ⟨gb671, 0, none⟩ = some (.slice A0_0 l0_0.length c0_0) := (blk_cell BK671.out 0).trans rfl; have hcz23_1 : w22.cell? ⟨gb671, 1, none⟩ = some (.slice A0_1 l0_1.length c0_1) := (blk_cell BK671.out 1).trans rfl; have hfz23_0 := blk_frozen BK671.out 0; have hfz23_1 := blk_frozen BK671.out 1) | ((with_reducible refine gate_callee (f := 71) rfl ?_); refine goesL_ (some 24) rfl rfl Try.func71 (by kernel_rfl) rfl #[.agg #[.slice A0_0 l0_0.length c0_0, .slice A0_1 l0_1.length c0_1], .int .i64 x1_1] rfl (by (try simp only [List.map_toArray, List.map_cons, List.map_nil]); first | done | rfl | (simp only [List.length_drop, List.length_take]; rfl)) ?_; (with_reducible refine (impl_Problem_point.calls k1 _ _ l0_0 _ _ l0_1 x1_1 t676 t679 true _ ?side1 ?side2 ?side3 ?side4 A7.out).mono ?_); (case side1 => repeat (first | exact (Kd.C_below HR0_0.out HB.out) | (with_reducible refine Kd.C_alloc ?_ _) | (with_reducible refine Kd.C_drewN ?_ _) | (with_reducible refine Kd.C_drew ?_))); (case side2 => exact HC0_0.out); (case side3 => repeat (first | exact (Kd.C_below HR0_1.out HB.out) | (with_reducible refine Kd.C_alloc ?_ _) | (with_reducible refine Kd.C_drewN ?_ _) | (with_reducible refine Kd.C_drew ?_))); (case side4 => exact HC0_1.out); rintro e w24 ⟨v677, rfl, ho0, hb⟩; refine ⟨_, rfl, ?_⟩; have n0_ := Aside0.mk (Kd.R_elder' (by (with_reducible repeat (first | apply Kd.R_alloc | apply Kd.R_drewN | apply Kd.R_drew)); exact HO675.out) (Kd.R_base ho0) hb); have n1_ := Aside0.mk (Kd.R_lower (Kd.R_new' ho0 (Kd.R_lt (by (with_reducible repeat (first | apply Kd.R_alloc | apply Kd.R_drewN | apply Kd.R_drew)); exact HO675.out))) (below_size (by repeat (first | (with_reducible first | exact HB.out | apply below_alloc | apply pw_below_drewN | apply below_drew1 | refine below_set ?_ GE671.out) | exact HB.out)))); have n2_ := Aside0.mk (blk_below (g := gb671) (o := .cells #[.slice A0_0 l0_0.length c0_0, .slice A0_1 l0_1.length c0_1] 29 (0, 0)) (by (with_reducible repeat (first | refine blk_drewN ?_ _ | refine blk_drew ?_ | refine blk_alloc ?_ _)); exact BK671.out) hb); have n3_ := Aside0.mk (below_step (by repeat (first | (with_reducible first | exact HB.out | apply below_alloc | apply pw_below_drewN | apply below_drew1 | refine below_set ?_ GE671.out) | exact HB.out)) hb); clear HO675; clear BK671; clear HB; have HO675 := n0_; have HO678 := n1_; have BK671 := n2_; have HB := n3_; clear n0_ n1_ n2_ n3_; (try clear hb); (try clear hb2); (try clear hk); (try clear hi); (try clear ho0); obtain ⟨Ao25, co25, eo25⟩ := Kd.R_slice HO678.out; subst eo25) | ((with_reducible refine gate_callee (f := 112) rfl ?_); refine goesL_ (some 37) rfl rfl Try.func112 (by kernel_rfl) rfl #[.slice Ao25 t676.length co25, .int .i64 a2] rfl (by (try simp only [List.map_toArray, List.map_cons, List.map_nil]); first | done | rfl | (simp only [List.length_drop, List.length_take]; rfl)) ?_; (with_reducible refine (impl_exchanged.calls k1 _ _ t676 a2 t681 _ ?side1 ?side2 A14.out).mono ?_); (case side1 => repeat (first | exact (Kd.R_reads' HO678.out).2.2 | (with_reducible refine Kd.C_alloc ?_ _) | (with_reducible refine Kd.C_drewN ?_ _) | (with_reducible refine Kd.C_drew ?_))); (case side2 => exact (Kd.R_reads' HO678.out).2.1); rintro e w' ⟨rfl, ⟨nd, rfl⟩⟩; refine ⟨_, rfl, ?_⟩))
       go_roundg k1
       case measure => have := HK1.out; omega
       case rel => exact ⟨(Go.bits .xor .i64 x1_1 t681), (y673), (by first | rfl | (simp; done) | (simp [*]; done)), H', ⟨by have := HK1.out; omega⟩, ⟨by (with_reducible repeat (first | apply Kd.R_alloc | apply Kd.R_drewN | apply Kd.R_drew)); exact Kd.R_mono HO675.out (fun _ hk => trivial)⟩, ⟨by (with_reducible repeat (first | refine blk_drewN ?_ _ | refine blk_drew ?_ | refine blk_alloc ?_ _)); exact BK671.out⟩, ⟨by repeat (first | (with_reducible first | exact HB.out | apply below_alloc | apply pw_below_drewN | apply below_drew1 | refine below_set ?_ GE671.out) | exact HB.out)⟩⟩
    ·replace c8 := Bool.eq_false_iff.mpr c8
     subst c8
     have H1 : (some (y673, 1)) = some (r1, r2) := by rw [if_neg (show ¬ (false = true) by decide)] at H; exact H
     clear H
     have H := H1
     clear H1
     simp only [Option.some.injEq, Prod.mk.injEq] at H
     obtain ⟨rfl, rfl⟩ := H
     obtain ⟨Ao26, co26, eo26⟩ := Kd.R_slice HO_8.out
     subst eo26
     go_wp2_with (first | ((with_reducible refine gate_callee (f := 72) rfl ?_); refine goesL_ (some 16) rfl rfl Try.func72 (by kernel_rfl) rfl #[.slice Ao26 x8_1.length co26, .int .i64 x1_1] rfl (by (try simp only [List.map_toArray, List.map_cons, List.map_nil]); first | done | rfl | (simp only [List.length_drop, List.length_take]; rfl)) ?_; (with_reducible refine (slices_Contains_int64_int64.calls k1 _ _ x8_1 x1_1 t672 _ ?side1 ?side2 A5.out).mono ?_); (case side1 => repeat (first | exact (Kd.R_reads' HO_8.out).2.2 | (with_reducible refine Kd.C_alloc ?_ _) | (with_reducible refine Kd.C_drewN ?_ _) | (with_reducible refine Kd.C_drew ?_))); (case side2 => exact (Kd.R_reads' HO_8.out).2.1); rintro e w' ⟨rfl, ⟨nd, rfl⟩⟩; refine ⟨_, rfl, ?_⟩) | ((with_reducible refine gate_builtin (b := .append) (xs := #[.tmp 17, .tmp 19]) rfl ?_); at_builtin; refine Kd.R_append (Kd.int .i64) (w0 := w) w.heap.size rfl (.tmp 17) (.tmp 19) 23 2 (.int .i64 0) 8 rfl Try.underlying23 info2 rfl (by decide) (by omega) (.slice Ao26 x8_1.length co26) x8_1 x1_1 [.int .i64 x1_1] (fun _ => True) (fun _ => False) rfl rfl ?aP (fun _ hk => hk.elim) ?aF ?aO ?aB ?aS ?aL ?_; (case aP => exact rfl); (case aB => exact (by repeat (first | (with_reducible first | exact HB.out | apply below_alloc | apply pw_below_drewN | apply below_drew1 | refine below_set ?_ GE671.out) | exact HB.out))); (case aF => exact (fun _ _ => trivial)); (case aO => exact (by (with_reducible repeat (first | apply Kd.R_alloc | apply Kd.R_drewN | apply Kd.R_drew)); exact HO_8.out)); (case aS => exact (below_size (by repeat (first | (with_reducible first | exact HB.out | apply below_alloc | apply pw_below_drewN | apply below_drew1 | refine below_set ?_ GE671.out) | exact HB.out)))); (case aL => have := LMc6.out; omega); intro v674 w27 ho hb hg hat; rw [← Ny673.out] at ho; have n0_ := Aside0.mk (blk_grown (g := gb671) (o := .cells #[.slice A0_0 l0_0.length c0_0, .slice A0_1 l0_1.length c0_1] 29 (0, 0)) (by (with_reducible repeat (first | refine blk_drewN ?_ _ | refine blk_drew ?_ | refine blk_alloc ?_ _)); exact BK671.out) hg (Kd.R_ne HO_8.out BK671.out (by decide))); have n1_ := Aside0.mk (hb); have n2_ := Aside0.mk (ho); clear BK671; clear HB; clear HO_8; have BK671 := n0_; have HB := n1_; have HO675 := n2_; clear n0_ n1_ n2_; clear ho hb hg hat; have hcz28_0 : w27.cell? ⟨gb671, 0, none⟩ = some (.slice A0_0 l0_0.length c0_0) := (blk_cell BK671.out 0).trans rfl; have hcz28_1 : w27.cell? ⟨gb671, 1, none⟩ = some (.slice A0_1 l0_1.length c0_1) := (blk_cell BK671.out 1).trans rfl; have hfz28_0 := blk_frozen BK671.out 0; have hfz28_1 := blk_frozen BK671.out 1) | ((with_reducible refine gate_callee (f := 71) rfl ?_); refine goesL_ (some 24) rfl rfl Try.func71 (by kernel_rfl) rfl #[.agg #[.slice A0_0 l0_0.length c0_0, .slice A0_1 l0_1.length c0_1], .int .i64 x1_1] rfl (by (try simp only [List.map_toArray, List.map_cons, List.map_nil]); first | done | rfl | (simp only [List.length_drop, List.length_take]; rfl)) ?_; (with_reducible refine (impl_Problem_point.calls k1 _ _ l0_0 _ _ l0_1 x1_1 t676 t679 false _ ?side1 ?side2 ?side3 ?side4 A7.out).mono ?_); (case side1 => repeat (first | exact (Kd.C_below HR0_0.out HB.out) | (with_reducible refine Kd.C_alloc ?_ _) | (with_reducible refine Kd.C_drewN ?_ _) | (with_reducible refine Kd.C_drew ?_))); (case side2 => exact HC0_0.out); (case side3 => repeat (first | exact (Kd.C_below HR0_1.out HB.out) | (with_reducible refine Kd.C_alloc ?_ _) | (with_reducible refine Kd.C_drewN ?_ _) | (with_reducible refine Kd.C_drew ?_))); (case side4 => exact HC0_1.out); rintro e w29 ⟨v677, rfl, ho0, hb⟩; refine ⟨_, rfl, ?_⟩; have n0_ := Aside0.mk (Kd.R_elder' (by (with_reducible repeat (first | apply Kd.R_alloc | apply Kd.R_drewN | apply Kd.R_drew)); exact HO675.out) (Kd.R_base ho0) hb); have n1_ := Aside0.mk (Kd.R_lower (Kd.R_new' ho0 (Kd.R_lt (by (with_reducible repeat (first | apply Kd.R_alloc | apply Kd.R_drewN | apply Kd.R_drew)); exact HO675.out))) (below_size (by repeat (first | (with_reducible first | exact HB.out | apply below_alloc | apply pw_below_drewN | apply below_drew1 | refine below_set ?_ GE671.out) | exact HB.out)))); have n2_ := Aside0.mk (blk_below (g := gb671) (o := .cells #[.slice A0_0 l0_0.length c0_0, .slice A0_1 l0_1.length c0_1] 29 (0, 0)) (by (with_reducible repeat (first | refine blk_drewN ?_ _ | refine blk_drew ?_ | refine blk_alloc ?_ _)); exact BK671.out) hb); have n3_ := Aside0.mk (below_step (by repeat (first | (with_reducible first | exact HB.out | apply below_alloc | apply pw_below_drewN | apply below_drew1 | refine below_set ?_ GE671.out) | exact HB.out)) hb); clear HO675; clear BK671; clear HB; have HO675 := n0_; have HO678 := n1_; have BK671 := n2_; have HB := n3_; clear n0_ n1_ n2_ n3_; (try clear hb); (try clear hb2); (try clear hk); (try clear hi); (try clear ho0)))
     go_ret2
     exact ⟨_, by first | rfl | (simp [errW_none, errW_some] <;> rfl) | (simp [*, errW_none, errW_some] <;> rfl), by (with_reducible repeat (first | apply Kd.R_alloc | apply Kd.R_drewN | apply Kd.R_drew)); exact Kd.R_mono HO675.out (fun _ hk => trivial), by repeat (first | (with_reducible first | exact HB.out | apply below_alloc | apply pw_below_drewN | apply below_drew1 | refine below_set ?_ GE671.out) | exact HB.out)⟩
   ·rw [if_neg c6] at H
    exact absurd H (by simp)
def impl_StepsByRule.f (k : Nat) (l0_0 : List (List Int)) (l0_1 : List Int) (a1 : Int) : Option (Int × Int) := (impl_ruleCode.f l0_0 l0_1 0 a1).bind fun t683 => (if t683 = 0 then ((impl_Problem_walk.f k l0_0 l0_1 0 a1).bind fun bt684 => (if bt684.2 = 0 then (some (wrap64 ((bt684.1.length : Int) - 1), 0)) else (some (0, 4)))) else (some (0, t683)))
theorem impl_StepsByRule.mono : ∀ a0 a1 a2 k, LeO (impl_StepsByRule.f k a0 a1 a2) (impl_StepsByRule.f (k + 1) a0 a1 a2) := by
 intro a0 a1 a2 k
 unfold impl_StepsByRule.f
 repeat' first
   | (with_reducible exact impl_Problem_walk.mono _ _ _ _ _)
   | (with_reducible exact LeO.refl _)
   | (with_reducible exact LeO.none _)
   | (with_reducible refine LeO.ite ?_ ?_)
   | (with_reducible refine LeO.bind ?_ (fun _ => ?_))
   | exact impl_Problem_walk.mono _ _ _ _ _
   | exact LeO.none _
   | refine LeO.ite ?_ ?_
   | refine LeO.bind ?_ (fun _ => ?_)
theorem impl_StepsByRule.calls (k : Nat) (A0_0 : Option Addr) (c0_0 : Nat) (l0_0 : List (List Int)) (A0_1 : Option Addr) (c0_1 : Nat) (l0_1 : List Int) (a1 : Int) (r1 : Int) (r2 : Int) (w : World) (hr0_0 : Kd.C (Kd.slice 2 (Kd.int .i64)) w A0_0 l0_0.length l0_0) (hc0_0 : l0_0.length ≤ c0_0) (hr0_1 : Kd.C (Kd.int .i64) w A0_1 l0_1.length l0_1) (hc0_1 : l0_1.length ≤ c0_1) (h : impl_StepsByRule.f k l0_0 l0_1 a1 = some (r1, r2)) :
  Calls Try.prog 32 #[.agg #[.slice A0_0 l0_0.length c0_0, .slice A0_1 l0_1.length c0_1], .int .i64 a1] w fun e w' => e = .returned (.tuple #[.int .i64 r1, .int .i64 r2]) ∧ Below w.heap.size w w' := by
 have hu29 := Try.underlying29
 have HR0_0 := Aside0.mk hr0_0
 have HC0_0 := Aside0.mk hc0_0
 clear hr0_0 hc0_0
 have HR0_1 := Aside0.mk hr0_1
 have HC0_1 := Aside0.mk hc0_1
 clear hr0_1 hc0_1
 have HB := Aside0.mk (Below.refl w.heap.size w)
 have H : ((impl_ruleCode.f l0_0 l0_1 0 a1).bind fun t683 => (if t683 = 0 then ((impl_Problem_walk.f k l0_0 l0_1 0 a1).bind fun bt684 => (if bt684.2 = 0 then (some (wrap64 ((bt684.1.length : Int) - 1), 0)) else (some (0, 4)))) else (some (0, t683)))) = some (r1, r2) := h
 clear h
 replace H := Option.bind_eq_some_iff.mp H
 obtain ⟨t683, A30, H⟩ := H
 replace H : (if t683 = 0 then ((impl_Problem_walk.f k l0_0 l0_1 0 a1).bind fun bt684 => (if bt684.2 = 0 then (some (wrap64 ((bt684.1.length : Int) - 1), 0)) else (some (0, 4)))) else (some (0, t683))) = some (r1, r2) := H
 have A3 := Aside0.mk A30
 clear A30
 by_cases c4 : t683 = 0
 ·rw [if_pos c4] at H
  have c4b0 : (t683 == 0) = true := beq_iff_eq.mpr c4
  have c4b1 : (t683 != 0) = false := bne_eq_false_iff_eq.mpr c4
  clear c4
  replace H := Option.bind_eq_some_iff.mp H
  obtain ⟨⟨t684, t687⟩, A50, H⟩ := H
  replace H : (if t687 = 0 then (some (wrap64 ((t684.length : Int) - 1), 0)) else (some (0, 4))) = some (r1, r2) := H
  have A5 := Aside0.mk A50
  clear A50
  by_cases c6 : t687 = 0
  ·rw [if_pos c6] at H
   have c6b0 : (t687 == 0) = true := beq_iff_eq.mpr c6
   have c6b1 : (t687 != 0) = false := bne_eq_false_iff_eq.mpr c6
   clear c6
   simp only [Option.some.injEq, Prod.mk.injEq] at H
   obtain ⟨rfl, rfl⟩ := H
   go_enter Try.func32, Try.ntmps32
   go_wp2_with (first | ((with_reducible refine gate_dst (N := 2) rfl ?_); refine box_event ?hg (N := 2) ?hd (cs := #[.slice A0_0 l0_0.length c0_0, .slice A0_1 l0_1.length c0_1]) (t := 29) ?hr ?_; (case hd => rfl); (case hg => rfl); (case hr => first | (go_simp; done) | (go_simp; rfl)); intro gb682 hg w7 hbox hb; have n0_ := Aside0.mk (below_step (by repeat (first | (with_reducible first | exact HB.out | apply below_alloc | apply pw_below_drewN | apply below_drew1) | exact HB.out)) hb); have n1_ := Aside0.mk (hbox); have n2_ := Aside0.mk ((by rw [hg]; exact (below_size (by repeat (first | (with_reducible first | exact HB.out | apply below_alloc | apply pw_below_drewN | apply below_drew1) | exact HB.out))) : w.heap.size ≤ gb682)); have n3_ := Aside0.mk ((by rw [hg]; exact (below_size (by repeat (first | (with_reducible first | exact HB.out | apply below_alloc | apply pw_below_drewN | apply below_drew1) | exact HB.out))) : w.heap.size ≤ gb682)); clear HB; have HB := n0_; have BK682 := n1_; have GW682 := n2_; have GE682 := n3_; clear n0_ n1_ n2_ n3_; clear hb hbox hg; have hcz8_0 : w7.cell? ⟨gb682, 0, none⟩ = some (.slice A0_0 l0_0.length c0_0) := (blk_cell BK682.out 0).trans rfl; have hcz8_1 : w7.cell? ⟨gb682, 1, none⟩ = some (.slice A0_1 l0_1.length c0_1) := (blk_cell BK682.out 1).trans rfl; have hfz8_0 := blk_frozen BK682.out 0; have hfz8_1 := blk_frozen BK682.out 1) | ((with_reducible refine gate_callee (f := 80) rfl ?_); refine goesL_ (some 11) rfl rfl Try.func80 (by kernel_rfl) rfl #[.agg #[.slice A0_0 l0_0.length c0_0, .slice A0_1 l0_1.length c0_1], .int .i64 0, .int .i64 a1] rfl (by (try simp only [List.map_toArray, List.map_cons, List.map_nil]); first | done | rfl | (simp only [List.length_drop, List.length_take]; rfl)) ?_; (with_reducible refine (impl_ruleCode.calls _ _ l0_0 _ _ l0_1 0 a1 t683 _ ?side1 ?side2 ?side3 ?side4 A3.out).mono ?_); (case side1 => repeat (first | exact (Kd.C_below HR0_0.out HB.out) | (with_reducible refine Kd.C_alloc ?_ _) | (with_reducible refine Kd.C_drewN ?_ _) | (with_reducible refine Kd.C_drew ?_))); (case side2 => exact HC0_0.out); (case side3 => repeat (first | exact (Kd.C_below HR0_1.out HB.out) | (with_reducible refine Kd.C_alloc ?_ _) | (with_reducible refine Kd.C_drewN ?_ _) | (with_reducible refine Kd.C_drew ?_))); (case side4 => exact HC0_1.out); rintro e w9 ⟨rfl, hb⟩; refine ⟨_, rfl, ?_⟩; have n0_ := Aside0.mk (blk_below (g := gb682) (o := .cells #[.slice A0_0 l0_0.length c0_0, .slice A0_1 l0_1.length c0_1] 29 (0, 0)) (by (with_reducible repeat (first | refine blk_drewN ?_ _ | refine blk_drew ?_ | refine blk_alloc ?_ _)); exact BK682.out) hb); have n1_ := Aside0.mk (below_step (by repeat (first | (with_reducible first | exact HB.out | apply below_alloc | apply pw_below_drewN | apply below_drew1 | refine below_set ?_ GE682.out) | exact HB.out)) hb); clear BK682; clear HB; have BK682 := n0_; have HB := n1_; clear n0_ n1_; (try clear hb); (try clear hb2); (try clear hk); (try clear hi); have hcz10_0 : w9.cell? ⟨gb682, 0, none⟩ = some (.slice A0_0 l0_0.length c0_0) := (blk_cell BK682.out 0).trans rfl; have hcz10_1 : w9.cell? ⟨gb682, 1, none⟩ = some (.slice A0_1 l0_1.length c0_1) := (blk_cell BK682.out 1).trans rfl; have hfz10_0 := blk_frozen BK682.out 0; have hfz10_1 := blk_frozen BK682.out 1) | ((with_reducible refine gate_callee (f := 81) rfl ?_); refine goesL_ (some 18) rfl rfl Try.func81 (by kernel_rfl) rfl #[.agg #[.slice A0_0 l0_0.length c0_0, .slice A0_1 l0_1.length c0_1], .int .i64 0, .int .i64 a1] rfl (by (try simp only [List.map_toArray, List.map_cons, List.map_nil]); first | done | rfl | (simp only [List.length_drop, List.length_take]; rfl)) ?_; (with_reducible refine (impl_Problem_walk.calls k _ _ l0_0 _ _ l0_1 0 a1 t684 t687 _ ?side1 ?side2 ?side3 ?side4 A5.out).mono ?_); (case side1 => repeat (first | exact (Kd.C_below HR0_0.out HB.out) | (with_reducible refine Kd.C_alloc ?_ _) | (with_reducible refine Kd.C_drewN ?_ _) | (with_reducible refine Kd.C_drew ?_))); (case side2 => exact HC0_0.out); (case side3 => repeat (first | exact (Kd.C_below HR0_1.out HB.out) | (with_reducible refine Kd.C_alloc ?_ _) | (with_reducible refine Kd.C_drewN ?_ _) | (with_reducible refine Kd.C_drew ?_))); (case side4 => exact HC0_1.out); rintro e w11 ⟨v685, rfl, ho0, hb⟩; refine ⟨_, rfl, ?_⟩; have n0_ := Aside0.mk (Kd.R_lower ho0 (below_size (by repeat (first | (with_reducible first | exact HB.out | apply below_alloc | apply pw_below_drewN | apply below_drew1 | refine below_set ?_ GE682.out) | exact HB.out)))); have n1_ := Aside0.mk (blk_below (g := gb682) (o := .cells #[.slice A0_0 l0_0.length c0_0, .slice A0_1 l0_1.length c0_1] 29 (0, 0)) (by (with_reducible repeat (first | refine blk_drewN ?_ _ | refine blk_drew ?_ | refine blk_alloc ?_ _)); exact BK682.out) hb); have n2_ := Aside0.mk (below_step (by repeat (first | (with_reducible first | exact HB.out | apply below_alloc | apply pw_below_drewN | apply below_drew1 | refine below_set ?_ GE682.out) | exact HB.out)) hb); clear BK682; clear HB; have HO686 := n0_; have BK682 := n1_; have HB := n2_; clear n0_ n1_ n2_; (try clear hb); (try clear hb2); (try clear hk); (try clear hi); (try clear ho0); obtain ⟨Ao12, co12, eo12⟩ := Kd.R_slice HO686.out; subst eo12))
   go_ret2
   exact ⟨by first | rfl | (simp [errW_none, errW_some] <;> rfl) | (simp [*, errW_none, errW_some] <;> rfl), by repeat (first | (with_reducible first | exact HB.out | apply below_alloc | apply pw_below_drewN | apply below_drew1 | refine below_set ?_ GE682.out) | exact HB.out)⟩
  ·rw [if_neg c6] at H
   have c6b0 : (t687 == 0) = false := beq_eq_false_iff_ne.mpr c6
   have c6b1 : (t687 != 0) = true := bne_iff_ne.mpr c6
   simp only [Option.some.injEq, Prod.mk.injEq] at H
   obtain ⟨rfl, rfl⟩ := H
   go_enter Try.func32, Try.ntmps32
   go_wp2_with (first | ((with_reducible refine gate_dst (N := 2) rfl ?_); refine box_event ?hg (N := 2) ?hd (cs := #[.slice A0_0 l0_0.length c0_0, .slice A0_1 l0_1.length c0_1]) (t := 29) ?hr ?_; (case hd => rfl); (case hg => rfl); (case hr => first | (go_simp; done) | (go_simp; rfl)); intro gb682 hg w13 hbox hb; have n0_ := Aside0.mk (below_step (by repeat (first | (with_reducible first | exact HB.out | apply below_alloc | apply pw_below_drewN | apply below_drew1) | exact HB.out)) hb); have n1_ := Aside0.mk (hbox); have n2_ := Aside0.mk ((by rw [hg]; exact (below_size (by repeat (first | (with_reducible first | exact HB.out | apply below_alloc | apply pw_below_drewN | apply below_drew1) | exact HB.out))) : w.heap.size ≤ gb682)); have n3_ := Aside0.mk ((by rw [hg]; exact (below_size (by repeat (first | (with_reducible first | exact HB.out | apply below_alloc | apply pw_below_drewN | apply below_drew1) | exact HB.out))) : w.heap.size ≤ gb682)); clear HB; have HB := n0_; have BK682 := n1_; have GW682 := n2_; have GE682 := n3_; clear n0_ n1_ n2_ n3_; clear hb hbox hg; have hcz14_0 : w13.cell? ⟨gb682, 0, none⟩ = some (.slice A0_0 l0_0.length c0_0) := (blk_cell BK682.out 0).trans rfl; have hcz14_1 : w13.cell? ⟨gb682, 1, none⟩ = some (.slice A0_1 l0_1.length c0_1) := (blk_cell BK682.out 1).trans rfl; have hfz14_0 := blk_frozen BK682.out 0; have hfz14_1 := blk_frozen BK682.out 1) | ((with_reducible refine gate_callee (f := 80) rfl ?_); refine goesL_ (some 11) rfl rfl Try.func80 (by kernel_rfl) rfl #[.agg #[.slice A0_0 l0_0.length c0_0, .slice A0_1 l0_1.length c0_1], .int .i64 0, .int .i64 a1] rfl (by (try simp only [List.map_toArray, List.map_cons, List.map_nil]); first | done | rfl | (simp only [List.length_drop, List.length_take]; rfl)) ?_; (with_reducible refine (impl_ruleCode.calls _ _ l0_0 _ _ l0_1 0 a1 t683 _ ?side1 ?side2 ?side3 ?side4 A3.out).mono ?_); (case side1 => repeat (first | exact (Kd.C_below HR0_0.out HB.out) | (with_reducible refine Kd.C_alloc ?_ _) | (with_reducible refine Kd.C_drewN ?_ _) | (with_reducible refine Kd.C_drew ?_))); (case side2 => exact HC0_0.out); (case side3 => repeat (first | exact (Kd.C_below HR0_1.out HB.out) | (with_reducible refine Kd.C_alloc ?_ _) | (with_reducible refine Kd.C_drewN ?_ _) | (with_reducible refine Kd.C_drew ?_))); (case side4 => exact HC0_1.out); rintro e w15 ⟨rfl, hb⟩; refine ⟨_, rfl, ?_⟩; have n0_ := Aside0.mk (blk_below (g := gb682) (o := .cells #[.slice A0_0 l0_0.length c0_0, .slice A0_1 l0_1.length c0_1] 29 (0, 0)) (by (with_reducible repeat (first | refine blk_drewN ?_ _ | refine blk_drew ?_ | refine blk_alloc ?_ _)); exact BK682.out) hb); have n1_ := Aside0.mk (below_step (by repeat (first | (with_reducible first | exact HB.out | apply below_alloc | apply pw_below_drewN | apply below_drew1 | refine below_set ?_ GE682.out) | exact HB.out)) hb); clear BK682; clear HB; have BK682 := n0_; have HB := n1_; clear n0_ n1_; (try clear hb); (try clear hb2); (try clear hk); (try clear hi); have hcz16_0 : w15.cell? ⟨gb682, 0, none⟩ = some (.slice A0_0 l0_0.length c0_0) := (blk_cell BK682.out 0).trans rfl; have hcz16_1 : w15.cell? ⟨gb682, 1, none⟩ = some (.slice A0_1 l0_1.length c0_1) := (blk_cell BK682.out 1).trans rfl; have hfz16_0 := blk_frozen BK682.out 0; have hfz16_1 := blk_frozen BK682.out 1) | ((with_reducible refine gate_callee (f := 81) rfl ?_); refine goesL_ (some 18) rfl rfl Try.func81 (by kernel_rfl) rfl #[.agg #[.slice A0_0 l0_0.length c0_0, .slice A0_1 l0_1.length c0_1], .int .i64 0, .int .i64 a1] rfl (by (try simp only [List.map_toArray, List.map_cons, List.map_nil]); first | done | rfl | (simp only [List.length_drop, List.length_take]; rfl)) ?_; (with_reducible refine (impl_Problem_walk.calls k _ _ l0_0 _ _ l0_1 0 a1 t684 t687 _ ?side1 ?side2 ?side3 ?side4 A5.out).mono ?_); (case side1 => repeat (first | exact (Kd.C_below HR0_0.out HB.out) | (with_reducible refine Kd.C_alloc ?_ _) | (with_reducible refine Kd.C_drewN ?_ _) | (with_reducible refine Kd.C_drew ?_))); (case side2 => exact HC0_0.out); (case side3 => repeat (first | exact (Kd.C_below HR0_1.out HB.out) | (with_reducible refine Kd.C_alloc ?_ _) | (with_reducible refine Kd.C_drewN ?_ _) | (with_reducible refine Kd.C_drew ?_))); (case side4 => exact HC0_1.out); rintro e w17 ⟨v685, rfl, ho0, hb⟩; refine ⟨_, rfl, ?_⟩; have n0_ := Aside0.mk (Kd.R_lower ho0 (below_size (by repeat (first | (with_reducible first | exact HB.out | apply below_alloc | apply pw_below_drewN | apply below_drew1 | refine below_set ?_ GE682.out) | exact HB.out)))); have n1_ := Aside0.mk (blk_below (g := gb682) (o := .cells #[.slice A0_0 l0_0.length c0_0, .slice A0_1 l0_1.length c0_1] 29 (0, 0)) (by (with_reducible repeat (first | refine blk_drewN ?_ _ | refine blk_drew ?_ | refine blk_alloc ?_ _)); exact BK682.out) hb); have n2_ := Aside0.mk (below_step (by repeat (first | (with_reducible first | exact HB.out | apply below_alloc | apply pw_below_drewN | apply below_drew1 | refine below_set ?_ GE682.out) | exact HB.out)) hb); clear BK682; clear HB; have HO686 := n0_; have BK682 := n1_; have HB := n2_; clear n0_ n1_ n2_; (try clear hb); (try clear hb2); (try clear hk); (try clear hi); (try clear ho0)))
   go_ret2
   exact ⟨by first | rfl | (simp [errW_none, errW_some] <;> rfl) | (simp [*, errW_none, errW_some] <;> rfl), by repeat (first | (with_reducible first | exact HB.out | apply below_alloc | apply pw_below_drewN | apply below_drew1 | refine below_set ?_ GE682.out) | exact HB.out)⟩
 ·rw [if_neg c4] at H
  have c4b0 : (t683 == 0) = false := beq_eq_false_iff_ne.mpr c4
  have c4b1 : (t683 != 0) = true := bne_iff_ne.mpr c4
  simp only [Option.some.injEq, Prod.mk.injEq] at H
  obtain ⟨rfl, rfl⟩ := H
  go_enter Try.func32, Try.ntmps32
  go_wp2_with (first | ((with_reducible refine gate_dst (N := 2) rfl ?_); refine box_event ?hg (N := 2) ?hd (cs := #[.slice A0_0 l0_0.length c0_0, .slice A0_1 l0_1.length c0_1]) (t := 29) ?hr ?_; (case hd => rfl); (case hg => rfl); (case hr => first | (go_simp; done) | (go_simp; rfl)); intro gb682 hg w18 hbox hb; have n0_ := Aside0.mk (below_step (by repeat (first | (with_reducible first | exact HB.out | apply below_alloc | apply pw_below_drewN | apply below_drew1) | exact HB.out)) hb); have n1_ := Aside0.mk (hbox); have n2_ := Aside0.mk ((by rw [hg]; exact (below_size (by repeat (first | (with_reducible first | exact HB.out | apply below_alloc | apply pw_below_drewN | apply below_drew1) | exact HB.out))) : w.heap.size ≤ gb682)); have n3_ := Aside0.mk ((by rw [hg]; exact (below_size (by repeat (first | (with_reducible first | exact HB.out | apply below_alloc | apply pw_below_drewN | apply below_drew1) | exact HB.out))) : w.heap.size ≤ gb682)); clear HB; have HB := n0_; have BK682 := n1_; have GW682 := n2_; have GE682 := n3_; clear n0_ n1_ n2_ n3_; clear hb hbox hg; have hcz19_0 : w18.cell? ⟨gb682, 0, none⟩ = some (.slice A0_0 l0_0.length c0_0) := (blk_cell BK682.out 0).trans rfl; have hcz19_1 : w18.cell? ⟨gb682, 1, none⟩ = some (.slice A0_1 l0_1.length c0_1) := (blk_cell BK682.out 1).trans rfl; have hfz19_0 := blk_frozen BK682.out 0; have hfz19_1 := blk_frozen BK682.out 1) | ((with_reducible refine gate_callee (f := 80) rfl ?_); refine goesL_ (some 11) rfl rfl Try.func80 (by kernel_rfl) rfl #[.agg #[.slice A0_0 l0_0.length c0_0, .slice A0_1 l0_1.length c0_1], .int .i64 0, .int .i64 a1] rfl (by (try simp only [List.map_toArray, List.map_cons, List.map_nil]); first | done | rfl | (simp only [List.length_drop, List.length_take]; rfl)) ?_; (with_reducible refine (impl_ruleCode.calls _ _ l0_0 _ _ l0_1 0 a1 t683 _ ?side1 ?side2 ?side3 ?side4 A3.out).mono ?_); (case side1 => repeat (first | exact (Kd.C_below HR0_0.out HB.out) | (with_reducible refine Kd.C_alloc ?_ _) | (with_reducible refine Kd.C_drewN ?_ _) | (with_reducible refine Kd.C_drew ?_))); (case side2 => exact HC0_0.out); (case side3 => repeat (first | exact (Kd.C_below HR0_1.out HB.out) | (with_reducible refine Kd.C_alloc ?_ _) | (with_reducible refine Kd.C_drewN ?_ _) | (with_reducible refine Kd.C_drew ?_))); (case side4 => exact HC0_1.out); rintro e w20 ⟨rfl, hb⟩; refine ⟨_, rfl, ?_⟩; have n0_ := Aside0.mk (blk_below (g := gb682) (o := .cells #[.slice A0_0 l0_0.length c0_0, .slice A0_1 l0_1.length c0_1] 29 (0, 0)) (by (with_reducible repeat (first | refine blk_drewN ?_ _ | refine blk_drew ?_ | refine blk_alloc ?_ _)); exact BK682.out) hb); have n1_ := Aside0.mk (below_step (by repeat (first | (with_reducible first | exact HB.out | apply below_alloc | apply pw_below_drewN | apply below_drew1 | refine below_set ?_ GE682.out) | exact HB.out)) hb); clear BK682; clear HB; have BK682 := n0_; have HB := n1_; clear n0_ n1_; (try clear hb); (try clear hb2); (try clear hk); (try clear hi)))
  go_ret2
  exact ⟨by first | rfl | (simp [errW_none, errW_some] <;> rfl) | (simp [*, errW_none, errW_some] <;> rfl), by repeat (first | (with_reducible first | exact HB.out | apply below_alloc | apply pw_below_drewN | apply below_drew1 | refine below_set ?_ GE682.out) | exact HB.out)⟩
def spec_RunByRule.f (k : Nat) (l0_0 : List (List Int)) (l0_1 : List Int) (a1 : Int) (a2 : Int) : Option (List Int × Int × Int) := (spec_l08Code.f k l0_0 l0_1 a1 a2).bind fun t715 => (if t715 = 0 then ((spec_l08Run.f k l0_0 l0_1 a1 a2).bind fun bt716 => (some (bt716.1, bt716.2, 0))) else (some (([] : List Int), 0, t715)))
theorem spec_RunByRule.mono : ∀ a0 a1 a2 a3 k, LeO (spec_RunByRule.f k a0 a1 a2 a3) (spec_RunByRule.f (k + 1) a0 a1 a2 a3) := by
 intro a0 a1 a2 a3 k
 unfold spec_RunByRule.f
 repeat' first
   | (with_reducible exact spec_l08Code.mono _ _ _ _ _)
   | (with_reducible exact spec_l08Run.mono _ _ _ _ _)
   | (with_reducible exact LeO.refl _)
   | (with_reducible exact LeO.none _)
   | (with_reducible refine LeO.ite ?_ ?_)
   | (with_reducible refine LeO.bind ?_ (fun _ => ?_))
   | exact spec_l08Code.mono _ _ _ _ _
   | exact spec_l08Run.mono _ _ _ _ _
   | exact LeO.none _
   | refine LeO.ite ?_ ?_
   | refine LeO.bind ?_ (fun _ => ?_)
theorem spec_RunByRule.calls (k : Nat) (A0_0 : Option Addr) (c0_0 : Nat) (l0_0 : List (List Int)) (A0_1 : Option Addr) (c0_1 : Nat) (l0_1 : List Int) (a1 : Int) (a2 : Int) (r1 : List Int) (r2 : Int) (r3 : Int) (w : World) (hr0_0 : Kd.C (Kd.slice 2 (Kd.int .i64)) w A0_0 l0_0.length l0_0) (hc0_0 : l0_0.length ≤ c0_0) (hr0_1 : Kd.C (Kd.int .i64) w A0_1 l0_1.length l0_1) (hc0_1 : l0_1.length ≤ c0_1) (h : spec_RunByRule.f k l0_0 l0_1 a1 a2 = some (r1, r2, r3)) :
  Calls Try.prog 33 #[.agg #[.slice A0_0 l0_0.length c0_0, .slice A0_1 l0_1.length c0_1], .int .i64 a1, .int .i64 a2] w fun e w' => ∃ v0_ : Value, e = .returned (.tuple #[v0_, .int .i64 r2, .int .i64 r3]) ∧ Kd.R (Kd.int .i64) 2 w' w.heap.size (fun _ => True) v0_ r1 ∧ Below w.heap.size w w' := by
 have hu29 := Try.underlying29
 have HR0_0 := Aside0.mk hr0_0
 have HC0_0 := Aside0.mk hc0_0
 clear hr0_0 hc0_0
 have HR0_1 := Aside0.mk hr0_1
 have HC0_1 := Aside0.mk hc0_1
 clear hr0_1 hc0_1
 have HB := Aside0.mk (Below.refl w.heap.size w)
 have H : ((spec_l08Code.f k l0_0 l0_1 a1 a2).bind fun t715 => (if t715 = 0 then ((spec_l08Run.f k l0_0 l0_1 a1 a2).bind fun bt716 => (some (bt716.1, bt716.2, 0))) else (some (([] : List Int), 0, t715)))) = some (r1, r2, r3) := h
 clear h
 replace H := Option.bind_eq_some_iff.mp H
 obtain ⟨t715, A40, H⟩ := H
 replace H : (if t715 = 0 then ((spec_l08Run.f k l0_0 l0_1 a1 a2).bind fun bt716 => (some (bt716.1, bt716.2, 0))) else (some (([] : List Int), 0, t715))) = some (r1, r2, r3) := H
 have A4 := Aside0.mk A40
 clear A40
 by_cases c5 : t715 = 0
 ·rw [if_pos c5] at H
  have c5b0 : (t715 == 0) = true := beq_iff_eq.mpr c5
  have c5b1 : (t715 != 0) = false := bne_eq_false_iff_eq.mpr c5
  clear c5
  replace H := Option.bind_eq_some_iff.mp H
  obtain ⟨⟨t716, t719⟩, A60, H⟩ := H
  replace H : (some (t716, t719, 0)) = some (r1, r2, r3) := H
  have A6 := Aside0.mk A60
  clear A60
  simp only [Option.some.injEq, Prod.mk.injEq] at H
  obtain ⟨rfl, rfl, rfl⟩ := H
  go_enter Try.func33, Try.ntmps33
  go_wp2_with (first | ((with_reducible refine gate_dst (N := 3) rfl ?_); refine box_event ?hg (N := 3) ?hd (cs := #[.slice A0_0 l0_0.length c0_0, .slice A0_1 l0_1.length c0_1]) (t := 29) ?hr ?_; (case hd => rfl); (case hg => rfl); (case hr => first | (go_simp; done) | (go_simp; rfl)); intro gb714 hg w7 hbox hb; have n0_ := Aside0.mk (below_step (by repeat (first | (with_reducible first | exact HB.out | apply below_alloc | apply pw_below_drewN | apply below_drew1) | exact HB.out)) hb); have n1_ := Aside0.mk (hbox); have n2_ := Aside0.mk ((by rw [hg]; exact (below_size (by repeat (first | (with_reducible first | exact HB.out | apply below_alloc | apply pw_below_drewN | apply below_drew1) | exact HB.out))) : w.heap.size ≤ gb714)); have n3_ := Aside0.mk ((by rw [hg]; exact (below_size (by repeat (first | (with_reducible first | exact HB.out | apply below_alloc | apply pw_below_drewN | apply below_drew1) | exact HB.out))) : w.heap.size ≤ gb714)); clear HB; have HB := n0_; have BK714 := n1_; have GW714 := n2_; have GE714 := n3_; clear n0_ n1_ n2_ n3_; clear hb hbox hg; have hcz8_0 : w7.cell? ⟨gb714, 0, none⟩ = some (.slice A0_0 l0_0.length c0_0) := (blk_cell BK714.out 0).trans rfl; have hcz8_1 : w7.cell? ⟨gb714, 1, none⟩ = some (.slice A0_1 l0_1.length c0_1) := (blk_cell BK714.out 1).trans rfl; have hfz8_0 := blk_frozen BK714.out 0; have hfz8_1 := blk_frozen BK714.out 1) | ((with_reducible refine gate_callee (f := 78) rfl ?_); refine goesL_ (some 15) rfl rfl Try.func78 (by kernel_rfl) rfl #[.agg #[.slice A0_0 l0_0.length c0_0, .slice A0_1 l0_1.length c0_1], .int .i64 a1, .int .i64 a2] rfl (by (try simp only [List.map_toArray, List.map_cons, List.map_nil]); first | done | rfl | (simp only [List.length_drop, List.length_take]; rfl)) ?_; (with_reducible refine (spec_l08Code.calls k _ _ l0_0 _ _ l0_1 a1 a2 t715 _ ?side1 ?side2 ?side3 ?side4 A4.out).mono ?_); (case side1 => repeat (first | exact (Kd.C_below HR0_0.out HB.out) | (with_reducible refine Kd.C_alloc ?_ _) | (with_reducible refine Kd.C_drewN ?_ _) | (with_reducible refine Kd.C_drew ?_))); (case side2 => exact HC0_0.out); (case side3 => repeat (first | exact (Kd.C_below HR0_1.out HB.out) | (with_reducible refine Kd.C_alloc ?_ _) | (with_reducible refine Kd.C_drewN ?_ _) | (with_reducible refine Kd.C_drew ?_))); (case side4 => exact HC0_1.out); rintro e w9 ⟨rfl, hb⟩; refine ⟨_, rfl, ?_⟩; have n0_ := Aside0.mk (blk_below (g := gb714) (o := .cells #[.slice A0_0 l0_0.length c0_0, .slice A0_1 l0_1.length c0_1] 29 (0, 0)) (by (with_reducible repeat (first | refine blk_drewN ?_ _ | refine blk_drew ?_ | refine blk_alloc ?_ _)); exact BK714.out) hb); have n1_ := Aside0.mk (below_step (by repeat (first | (with_reducible first | exact HB.out | apply below_alloc | apply pw_below_drewN | apply below_drew1 | refine below_set ?_ GE714.out) | exact HB.out)) hb); clear BK714; clear HB; have BK714 := n0_; have HB := n1_; clear n0_ n1_; (try clear hb); (try clear hb2); (try clear hk); (try clear hi); have hcz10_0 : w9.cell? ⟨gb714, 0, none⟩ = some (.slice A0_0 l0_0.length c0_0) := (blk_cell BK714.out 0).trans rfl; have hcz10_1 : w9.cell? ⟨gb714, 1, none⟩ = some (.slice A0_1 l0_1.length c0_1) := (blk_cell BK714.out 1).trans rfl; have hfz10_0 := blk_frozen BK714.out 0; have hfz10_1 := blk_frozen BK714.out 1) | ((with_reducible refine gate_callee (f := 79) rfl ?_); refine goesL_ (some 23) rfl rfl Try.func79 (by kernel_rfl) rfl #[.agg #[.slice A0_0 l0_0.length c0_0, .slice A0_1 l0_1.length c0_1], .int .i64 a1, .int .i64 a2] rfl (by (try simp only [List.map_toArray, List.map_cons, List.map_nil]); first | done | rfl | (simp only [List.length_drop, List.length_take]; rfl)) ?_; (with_reducible refine (spec_l08Run.calls k _ _ l0_0 _ _ l0_1 a1 a2 t716 t719 _ ?side1 ?side2 ?side3 ?side4 A6.out).mono ?_); (case side1 => repeat (first | exact (Kd.C_below HR0_0.out HB.out) | (with_reducible refine Kd.C_alloc ?_ _) | (with_reducible refine Kd.C_drewN ?_ _) | (with_reducible refine Kd.C_drew ?_))); (case side2 => exact HC0_0.out); (case side3 => repeat (first | exact (Kd.C_below HR0_1.out HB.out) | (with_reducible refine Kd.C_alloc ?_ _) | (with_reducible refine Kd.C_drewN ?_ _) | (with_reducible refine Kd.C_drew ?_))); (case side4 => exact HC0_1.out); rintro e w11 ⟨v717, rfl, ho0, hb⟩; refine ⟨_, rfl, ?_⟩; have n0_ := Aside0.mk (Kd.R_lower ho0 (below_size (by repeat (first | (with_reducible first | exact HB.out | apply below_alloc | apply pw_below_drewN | apply below_drew1 | refine below_set ?_ GE714.out) | exact HB.out)))); have n1_ := Aside0.mk (blk_below (g := gb714) (o := .cells #[.slice A0_0 l0_0.length c0_0, .slice A0_1 l0_1.length c0_1] 29 (0, 0)) (by (with_reducible repeat (first | refine blk_drewN ?_ _ | refine blk_drew ?_ | refine blk_alloc ?_ _)); exact BK714.out) hb); have n2_ := Aside0.mk (below_step (by repeat (first | (with_reducible first | exact HB.out | apply below_alloc | apply pw_below_drewN | apply below_drew1 | refine below_set ?_ GE714.out) | exact HB.out)) hb); clear BK714; clear HB; have HO718 := n0_; have BK714 := n1_; have HB := n2_; clear n0_ n1_ n2_; (try clear hb); (try clear hb2); (try clear hk); (try clear hi); (try clear ho0)))
  go_ret3
  exact ⟨_, by first | rfl | (simp [errW_none, errW_some] <;> rfl) | (simp [*, errW_none, errW_some] <;> rfl), by (with_reducible repeat (first | apply Kd.R_alloc | apply Kd.R_drewN | apply Kd.R_drew)); exact HO718.out, by repeat (first | (with_reducible first | exact HB.out | apply below_alloc | apply pw_below_drewN | apply below_drew1 | refine below_set ?_ GE714.out) | exact HB.out)⟩
 ·rw [if_neg c5] at H
  have c5b0 : (t715 == 0) = false := beq_eq_false_iff_ne.mpr c5
  have c5b1 : (t715 != 0) = true := bne_iff_ne.mpr c5
  simp only [Option.some.injEq, Prod.mk.injEq] at H
  obtain ⟨rfl, rfl, rfl⟩ := H
  go_enter Try.func33, Try.ntmps33
  go_wp2_with (first | ((with_reducible refine gate_dst (N := 3) rfl ?_); refine box_event ?hg (N := 3) ?hd (cs := #[.slice A0_0 l0_0.length c0_0, .slice A0_1 l0_1.length c0_1]) (t := 29) ?hr ?_; (case hd => rfl); (case hg => rfl); (case hr => first | (go_simp; done) | (go_simp; rfl)); intro gb714 hg w12 hbox hb; have n0_ := Aside0.mk (below_step (by repeat (first | (with_reducible first | exact HB.out | apply below_alloc | apply pw_below_drewN | apply below_drew1) | exact HB.out)) hb); have n1_ := Aside0.mk (hbox); have n2_ := Aside0.mk ((by rw [hg]; exact (below_size (by repeat (first | (with_reducible first | exact HB.out | apply below_alloc | apply pw_below_drewN | apply below_drew1) | exact HB.out))) : w.heap.size ≤ gb714)); have n3_ := Aside0.mk ((by rw [hg]; exact (below_size (by repeat (first | (with_reducible first | exact HB.out | apply below_alloc | apply pw_below_drewN | apply below_drew1) | exact HB.out))) : w.heap.size ≤ gb714)); clear HB; have HB := n0_; have BK714 := n1_; have GW714 := n2_; have GE714 := n3_; clear n0_ n1_ n2_ n3_; clear hb hbox hg; have hcz13_0 : w12.cell? ⟨gb714, 0, none⟩ = some (.slice A0_0 l0_0.length c0_0) := (blk_cell BK714.out 0).trans rfl; have hcz13_1 : w12.cell? ⟨gb714, 1, none⟩ = some (.slice A0_1 l0_1.length c0_1) := (blk_cell BK714.out 1).trans rfl; have hfz13_0 := blk_frozen BK714.out 0; have hfz13_1 := blk_frozen BK714.out 1) | ((with_reducible refine gate_callee (f := 78) rfl ?_); refine goesL_ (some 15) rfl rfl Try.func78 (by kernel_rfl) rfl #[.agg #[.slice A0_0 l0_0.length c0_0, .slice A0_1 l0_1.length c0_1], .int .i64 a1, .int .i64 a2] rfl (by (try simp only [List.map_toArray, List.map_cons, List.map_nil]); first | done | rfl | (simp only [List.length_drop, List.length_take]; rfl)) ?_; (with_reducible refine (spec_l08Code.calls k _ _ l0_0 _ _ l0_1 a1 a2 t715 _ ?side1 ?side2 ?side3 ?side4 A4.out).mono ?_); (case side1 => repeat (first | exact (Kd.C_below HR0_0.out HB.out) | (with_reducible refine Kd.C_alloc ?_ _) | (with_reducible refine Kd.C_drewN ?_ _) | (with_reducible refine Kd.C_drew ?_))); (case side2 => exact HC0_0.out); (case side3 => repeat (first | exact (Kd.C_below HR0_1.out HB.out) | (with_reducible refine Kd.C_alloc ?_ _) | (with_reducible refine Kd.C_drewN ?_ _) | (with_reducible refine Kd.C_drew ?_))); (case side4 => exact HC0_1.out); rintro e w14 ⟨rfl, hb⟩; refine ⟨_, rfl, ?_⟩; have n0_ := Aside0.mk (blk_below (g := gb714) (o := .cells #[.slice A0_0 l0_0.length c0_0, .slice A0_1 l0_1.length c0_1] 29 (0, 0)) (by (with_reducible repeat (first | refine blk_drewN ?_ _ | refine blk_drew ?_ | refine blk_alloc ?_ _)); exact BK714.out) hb); have n1_ := Aside0.mk (below_step (by repeat (first | (with_reducible first | exact HB.out | apply below_alloc | apply pw_below_drewN | apply below_drew1 | refine below_set ?_ GE714.out) | exact HB.out)) hb); clear BK714; clear HB; have BK714 := n0_; have HB := n1_; clear n0_ n1_; (try clear hb); (try clear hb2); (try clear hk); (try clear hi)))
  go_ret3
  exact ⟨_, by first | rfl | (simp [errW_none, errW_some] <;> rfl) | (simp [*, errW_none, errW_some] <;> rfl), by first | exact Kd.R_nil _ _ _ _ _ | exact Kd.N_nil _ _ _ _ _ | exact Kd.V_nil _ _ _ _ _ | exact Kd.Q_nil _ _ _ _ _ | exact Kd.S_nil _ _ _ _ _, by repeat (first | (with_reducible first | exact HB.out | apply below_alloc | apply pw_below_drewN | apply below_drew1 | refine below_set ?_ GE714.out) | exact HB.out)⟩
def impl_RunByRule.f (k : Nat) (l0_0 : List (List Int)) (l0_1 : List Int) (a1 : Int) (a2 : Int) : Option (List Int × Int × Int) := (impl_ruleCode.f l0_0 l0_1 a1 a2).bind fun t721 => (if t721 = 0 then ((impl_Problem_walk.f k l0_0 l0_1 a1 a2).bind fun bt722 => (some (bt722.1, bt722.2, 0))) else (some (([] : List Int), 0, t721)))
theorem impl_RunByRule.mono : ∀ a0 a1 a2 a3 k, LeO (impl_RunByRule.f k a0 a1 a2 a3) (impl_RunByRule.f (k + 1) a0 a1 a2 a3) := by
 intro a0 a1 a2 a3 k
 unfold impl_RunByRule.f
 repeat' first
   | (with_reducible exact impl_Problem_walk.mono _ _ _ _ _)
   | (with_reducible exact LeO.refl _)
   | (with_reducible exact LeO.none _)
   | (with_reducible refine LeO.ite ?_ ?_)
   | (with_reducible refine LeO.bind ?_ (fun _ => ?_))
   | exact impl_Problem_walk.mono _ _ _ _ _
   | exact LeO.none _
   | refine LeO.ite ?_ ?_
   | refine LeO.bind ?_ (fun _ => ?_)
theorem impl_RunByRule.calls (k : Nat) (A0_0 : Option Addr) (c0_0 : Nat) (l0_0 : List (List Int)) (A0_1 : Option Addr) (c0_1 : Nat) (l0_1 : List Int) (a1 : Int) (a2 : Int) (r1 : List Int) (r2 : Int) (r3 : Int) (w : World) (hr0_0 : Kd.C (Kd.slice 2 (Kd.int .i64)) w A0_0 l0_0.length l0_0) (hc0_0 : l0_0.length ≤ c0_0) (hr0_1 : Kd.C (Kd.int .i64) w A0_1 l0_1.length l0_1) (hc0_1 : l0_1.length ≤ c0_1) (h : impl_RunByRule.f k l0_0 l0_1 a1 a2 = some (r1, r2, r3)) :
  Calls Try.prog 34 #[.agg #[.slice A0_0 l0_0.length c0_0, .slice A0_1 l0_1.length c0_1], .int .i64 a1, .int .i64 a2] w fun e w' => ∃ v0_ : Value, e = .returned (.tuple #[v0_, .int .i64 r2, .int .i64 r3]) ∧ Kd.R (Kd.int .i64) 2 w' w.heap.size (fun _ => True) v0_ r1 ∧ Below w.heap.size w w' := by
 have hu29 := Try.underlying29
 have HR0_0 := Aside0.mk hr0_0
 have HC0_0 := Aside0.mk hc0_0
 clear hr0_0 hc0_0
 have HR0_1 := Aside0.mk hr0_1
 have HC0_1 := Aside0.mk hc0_1
 clear hr0_1 hc0_1
 have HB := Aside0.mk (Below.refl w.heap.size w)
 have H : ((impl_ruleCode.f l0_0 l0_1 a1 a2).bind fun t721 => (if t721 = 0 then ((impl_Problem_walk.f k l0_0 l0_1 a1 a2).bind fun bt722 => (some (bt722.1, bt722.2, 0))) else (some (([] : List Int), 0, t721)))) = some (r1, r2, r3) := h
 clear h
 replace H := Option.bind_eq_some_iff.mp H
 obtain ⟨t721, A40, H⟩ := H
 replace H : (if t721 = 0 then ((impl_Problem_walk.f k l0_0 l0_1 a1 a2).bind fun bt722 => (some (bt722.1, bt722.2, 0))) else (some (([] : List Int), 0, t721))) = some (r1, r2, r3) := H
 have A4 := Aside0.mk A40
 clear A40
 by_cases c5 : t721 = 0
 ·rw [if_pos c5] at H
  have c5b0 : (t721 == 0) = true := beq_iff_eq.mpr c5
  have c5b1 : (t721 != 0) = false := bne_eq_false_iff_eq.mpr c5
  clear c5
  replace H := Option.bind_eq_some_iff.mp H
  obtain ⟨⟨t722, t725⟩, A60, H⟩ := H
  replace H : (some (t722, t725, 0)) = some (r1, r2, r3) := H
  have A6 := Aside0.mk A60
  clear A60
  simp only [Option.some.injEq, Prod.mk.injEq] at H
  obtain ⟨rfl, rfl, rfl⟩ := H
  go_enter Try.func34, Try.ntmps34
  go_wp2_with (first | ((with_reducible refine gate_dst (N := 3) rfl ?_); refine box_event ?hg (N := 3) ?hd (cs := #[.slice A0_0 l0_0.length c0_0, .slice A0_1 l0_1.length c0_1]) (t := 29) ?hr ?_; (case hd => rfl); (case hg => rfl); (case hr => first | (go_simp; done) | (go_simp; rfl)); intro gb720 hg w7 hbox hb; have n0_ := Aside0.mk (below_step (by repeat (first | (with_reducible first | exact HB.out | apply below_alloc | apply pw_below_drewN | apply below_drew1) | exact HB.out)) hb); have n1_ := Aside0.mk (hbox); have n2_ := Aside0.mk ((by rw [hg]; exact (below_size (by repeat (first | (with_reducible first | exact HB.out | apply below_alloc | apply pw_below_drewN | apply below_drew1) | exact HB.out))) : w.heap.size ≤ gb720)); have n3_ := Aside0.mk ((by rw [hg]; exact (below_size (by repeat (first | (with_reducible first | exact HB.out | apply below_alloc | apply pw_below_drewN | apply below_drew1) | exact HB.out))) : w.heap.size ≤ gb720)); clear HB; have HB := n0_; have BK720 := n1_; have GW720 := n2_; have GE720 := n3_; clear n0_ n1_ n2_ n3_; clear hb hbox hg; have hcz8_0 : w7.cell? ⟨gb720, 0, none⟩ = some (.slice A0_0 l0_0.length c0_0) := (blk_cell BK720.out 0).trans rfl; have hcz8_1 : w7.cell? ⟨gb720, 1, none⟩ = some (.slice A0_1 l0_1.length c0_1) := (blk_cell BK720.out 1).trans rfl; have hfz8_0 := blk_frozen BK720.out 0; have hfz8_1 := blk_frozen BK720.out 1) | ((with_reducible refine gate_callee (f := 80) rfl ?_); refine goesL_ (some 15) rfl rfl Try.func80 (by kernel_rfl) rfl #[.agg #[.slice A0_0 l0_0.length c0_0, .slice A0_1 l0_1.length c0_1], .int .i64 a1, .int .i64 a2] rfl (by (try simp only [List.map_toArray, List.map_cons, List.map_nil]); first | done | rfl | (simp only [List.length_drop, List.length_take]; rfl)) ?_; (with_reducible refine (impl_ruleCode.calls _ _ l0_0 _ _ l0_1 a1 a2 t721 _ ?side1 ?side2 ?side3 ?side4 A4.out).mono ?_); (case side1 => repeat (first | exact (Kd.C_below HR0_0.out HB.out) | (with_reducible refine Kd.C_alloc ?_ _) | (with_reducible refine Kd.C_drewN ?_ _) | (with_reducible refine Kd.C_drew ?_))); (case side2 => exact HC0_0.out); (case side3 => repeat (first | exact (Kd.C_below HR0_1.out HB.out) | (with_reducible refine Kd.C_alloc ?_ _) | (with_reducible refine Kd.C_drewN ?_ _) | (with_reducible refine Kd.C_drew ?_))); (case side4 => exact HC0_1.out); rintro e w9 ⟨rfl, hb⟩; refine ⟨_, rfl, ?_⟩; have n0_ := Aside0.mk (blk_below (g := gb720) (o := .cells #[.slice A0_0 l0_0.length c0_0, .slice A0_1 l0_1.length c0_1] 29 (0, 0)) (by (with_reducible repeat (first | refine blk_drewN ?_ _ | refine blk_drew ?_ | refine blk_alloc ?_ _)); exact BK720.out) hb); have n1_ := Aside0.mk (below_step (by repeat (first | (with_reducible first | exact HB.out | apply below_alloc | apply pw_below_drewN | apply below_drew1 | refine below_set ?_ GE720.out) | exact HB.out)) hb); clear BK720; clear HB; have BK720 := n0_; have HB := n1_; clear n0_ n1_; (try clear hb); (try clear hb2); (try clear hk); (try clear hi); have hcz10_0 : w9.cell? ⟨gb720, 0, none⟩ = some (.slice A0_0 l0_0.length c0_0) := (blk_cell BK720.out 0).trans rfl; have hcz10_1 : w9.cell? ⟨gb720, 1, none⟩ = some (.slice A0_1 l0_1.length c0_1) := (blk_cell BK720.out 1).trans rfl; have hfz10_0 := blk_frozen BK720.out 0; have hfz10_1 := blk_frozen BK720.out 1) | ((with_reducible refine gate_callee (f := 81) rfl ?_); refine goesL_ (some 23) rfl rfl Try.func81 (by kernel_rfl) rfl #[.agg #[.slice A0_0 l0_0.length c0_0, .slice A0_1 l0_1.length c0_1], .int .i64 a1, .int .i64 a2] rfl (by (try simp only [List.map_toArray, List.map_cons, List.map_nil]); first | done | rfl | (simp only [List.length_drop, List.length_take]; rfl)) ?_; (with_reducible refine (impl_Problem_walk.calls k _ _ l0_0 _ _ l0_1 a1 a2 t722 t725 _ ?side1 ?side2 ?side3 ?side4 A6.out).mono ?_); (case side1 => repeat (first | exact (Kd.C_below HR0_0.out HB.out) | (with_reducible refine Kd.C_alloc ?_ _) | (with_reducible refine Kd.C_drewN ?_ _) | (with_reducible refine Kd.C_drew ?_))); (case side2 => exact HC0_0.out); (case side3 => repeat (first | exact (Kd.C_below HR0_1.out HB.out) | (with_reducible refine Kd.C_alloc ?_ _) | (with_reducible refine Kd.C_drewN ?_ _) | (with_reducible refine Kd.C_drew ?_))); (case side4 => exact HC0_1.out); rintro e w11 ⟨v723, rfl, ho0, hb⟩; refine ⟨_, rfl, ?_⟩; have n0_ := Aside0.mk (Kd.R_lower ho0 (below_size (by repeat (first | (with_reducible first | exact HB.out | apply below_alloc | apply pw_below_drewN | apply below_drew1 | refine below_set ?_ GE720.out) | exact HB.out)))); have n1_ := Aside0.mk (blk_below (g := gb720) (o := .cells #[.slice A0_0 l0_0.length c0_0, .slice A0_1 l0_1.length c0_1] 29 (0, 0)) (by (with_reducible repeat (first | refine blk_drewN ?_ _ | refine blk_drew ?_ | refine blk_alloc ?_ _)); exact BK720.out) hb); have n2_ := Aside0.mk (below_step (by repeat (first | (with_reducible first | exact HB.out | apply below_alloc | apply pw_below_drewN | apply below_drew1 | refine below_set ?_ GE720.out) | exact HB.out)) hb); clear BK720; clear HB; have HO724 := n0_; have BK720 := n1_; have HB := n2_; clear n0_ n1_ n2_; (try clear hb); (try clear hb2); (try clear hk); (try clear hi); (try clear ho0)))
  go_ret3
  exact ⟨_, by first | rfl | (simp [errW_none, errW_some] <;> rfl) | (simp [*, errW_none, errW_some] <;> rfl), by (with_reducible repeat (first | apply Kd.R_alloc | apply Kd.R_drewN | apply Kd.R_drew)); exact HO724.out, by repeat (first | (with_reducible first | exact HB.out | apply below_alloc | apply pw_below_drewN | apply below_drew1 | refine below_set ?_ GE720.out) | exact HB.out)⟩
 ·rw [if_neg c5] at H
  have c5b0 : (t721 == 0) = false := beq_eq_false_iff_ne.mpr c5
  have c5b1 : (t721 != 0) = true := bne_iff_ne.mpr c5
  simp only [Option.some.injEq, Prod.mk.injEq] at H
  obtain ⟨rfl, rfl, rfl⟩ := H
  go_enter Try.func34, Try.ntmps34
  go_wp2_with (first | ((with_reducible refine gate_dst (N := 3) rfl ?_); refine box_event ?hg (N := 3) ?hd (cs := #[.slice A0_0 l0_0.length c0_0, .slice A0_1 l0_1.length c0_1]) (t := 29) ?hr ?_; (case hd => rfl); (case hg => rfl); (case hr => first | (go_simp; done) | (go_simp; rfl)); intro gb720 hg w12 hbox hb; have n0_ := Aside0.mk (below_step (by repeat (first | (with_reducible first | exact HB.out | apply below_alloc | apply pw_below_drewN | apply below_drew1) | exact HB.out)) hb); have n1_ := Aside0.mk (hbox); have n2_ := Aside0.mk ((by rw [hg]; exact (below_size (by repeat (first | (with_reducible first | exact HB.out | apply below_alloc | apply pw_below_drewN | apply below_drew1) | exact HB.out))) : w.heap.size ≤ gb720)); have n3_ := Aside0.mk ((by rw [hg]; exact (below_size (by repeat (first | (with_reducible first | exact HB.out | apply below_alloc | apply pw_below_drewN | apply below_drew1) | exact HB.out))) : w.heap.size ≤ gb720)); clear HB; have HB := n0_; have BK720 := n1_; have GW720 := n2_; have GE720 := n3_; clear n0_ n1_ n2_ n3_; clear hb hbox hg; have hcz13_0 : w12.cell? ⟨gb720, 0, none⟩ = some (.slice A0_0 l0_0.length c0_0) := (blk_cell BK720.out 0).trans rfl; have hcz13_1 : w12.cell? ⟨gb720, 1, none⟩ = some (.slice A0_1 l0_1.length c0_1) := (blk_cell BK720.out 1).trans rfl; have hfz13_0 := blk_frozen BK720.out 0; have hfz13_1 := blk_frozen BK720.out 1) | ((with_reducible refine gate_callee (f := 80) rfl ?_); refine goesL_ (some 15) rfl rfl Try.func80 (by kernel_rfl) rfl #[.agg #[.slice A0_0 l0_0.length c0_0, .slice A0_1 l0_1.length c0_1], .int .i64 a1, .int .i64 a2] rfl (by (try simp only [List.map_toArray, List.map_cons, List.map_nil]); first | done | rfl | (simp only [List.length_drop, List.length_take]; rfl)) ?_; (with_reducible refine (impl_ruleCode.calls _ _ l0_0 _ _ l0_1 a1 a2 t721 _ ?side1 ?side2 ?side3 ?side4 A4.out).mono ?_); (case side1 => repeat (first | exact (Kd.C_below HR0_0.out HB.out) | (with_reducible refine Kd.C_alloc ?_ _) | (with_reducible refine Kd.C_drewN ?_ _) | (with_reducible refine Kd.C_drew ?_))); (case side2 => exact HC0_0.out); (case side3 => repeat (first | exact (Kd.C_below HR0_1.out HB.out) | (with_reducible refine Kd.C_alloc ?_ _) | (with_reducible refine Kd.C_drewN ?_ _) | (with_reducible refine Kd.C_drew ?_))); (case side4 => exact HC0_1.out); rintro e w14 ⟨rfl, hb⟩; refine ⟨_, rfl, ?_⟩; have n0_ := Aside0.mk (blk_below (g := gb720) (o := .cells #[.slice A0_0 l0_0.length c0_0, .slice A0_1 l0_1.length c0_1] 29 (0, 0)) (by (with_reducible repeat (first | refine blk_drewN ?_ _ | refine blk_drew ?_ | refine blk_alloc ?_ _)); exact BK720.out) hb); have n1_ := Aside0.mk (below_step (by repeat (first | (with_reducible first | exact HB.out | apply below_alloc | apply pw_below_drewN | apply below_drew1 | refine below_set ?_ GE720.out) | exact HB.out)) hb); clear BK720; clear HB; have BK720 := n0_; have HB := n1_; clear n0_ n1_; (try clear hb); (try clear hb2); (try clear hk); (try clear hi)))
  go_ret3
  exact ⟨_, by first | rfl | (simp [errW_none, errW_some] <;> rfl) | (simp [*, errW_none, errW_some] <;> rfl), by first | exact Kd.R_nil _ _ _ _ _ | exact Kd.N_nil _ _ _ _ _ | exact Kd.V_nil _ _ _ _ _ | exact Kd.Q_nil _ _ _ _ _ | exact Kd.S_nil _ _ _ _ _, by repeat (first | (with_reducible first | exact HB.out | apply below_alloc | apply pw_below_drewN | apply below_drew1 | refine below_set ?_ GE720.out) | exact HB.out)⟩
def spec_CountEnds.l0 : Nat → Int → List Int → Int → List (List Int) → List Int → Option (List Int × Int)
 | 0, _, _, _, _, _ => none
 | k + 1, x1, x7, x8, x760000, x760001 => if 0 ≤ (IntKind.u64.wrap ((x760001.length : Int))) then (if x8 < (shl .i64 1 (IntKind.u64.wrap ((x760001.length : Int)))) then ((spec_l08Run.f k x760000 x760001 x8 x1).bind fun bt764 => (if 0 ≤ bt764.2 then (if bt764.2 < (x7.length : Int) then (spec_CountEnds.l0 k x1 (x7.set (bt764.2 : Int).toNat (wrap64 ((rd x7 bt764.2) + 1))) (wrap64 (x8 + 1)) x760000 x760001) else (none)) else (none))) else (some (x7, 0))) else (none)
def spec_CountEnds.f (k : Nat) (l0_0 : List (List Int)) (l0_1 : List Int) (a1 : Int) : Option (List Int × Int) := (spec_l08Code.f k l0_0 l0_1 0 a1).bind fun t760 => (if t760 = 0 then (if 3 ≤ 35184372088832 then (spec_CountEnds.l0 k a1 (List.replicate 3 0) 0 l0_0 l0_1) else (none)) else (some (([] : List Int), t760)))
theorem spec_CountEnds.mono_l : ∀ k, (∀ y0 y1 y2 y3 y4, LeO (spec_CountEnds.l0 k y0 y1 y2 y3 y4) (spec_CountEnds.l0 (k + 1) y0 y1 y2 y3 y4))
 | 0 => fun _ _ _ _ _ r h => by simp [spec_CountEnds.l0] at h
 | k + 1 => by
  have ih0 := spec_CountEnds.mono_l k
  ·intro y0 y1 y2 y3 y4
   unfold spec_CountEnds.l0
   repeat' first
   | (with_reducible exact ih0 _ _ _ _ _)
   | (with_reducible exact spec_l08Code.mono _ _ _ _ _)
   | (with_reducible exact spec_l08Run.mono _ _ _ _ _)
   | (with_reducible exact LeO.refl _)
   | (with_reducible exact LeO.none _)
   | (with_reducible refine LeO.ite ?_ ?_)
   | (with_reducible refine LeO.bind ?_ (fun _ => ?_))
   | exact ih0 _ _ _ _ _
   | exact spec_l08Code.mono _ _ _ _ _
   | exact spec_l08Run.mono _ _ _ _ _
   | exact LeO.none _
   | refine LeO.ite ?_ ?_
   | refine LeO.bind ?_ (fun _ => ?_)
theorem spec_CountEnds.mono : ∀ a0 a1 a2 k, LeO (spec_CountEnds.f k a0 a1 a2) (spec_CountEnds.f (k + 1) a0 a1 a2) := by
 intro a0 a1 a2 k
 have ih0 := spec_CountEnds.mono_l k
 unfold spec_CountEnds.f
 repeat' first
   | (with_reducible exact ih0 _ _ _ _ _)
   | (with_reducible exact spec_l08Code.mono _ _ _ _ _)
   | (with_reducible exact spec_l08Run.mono _ _ _ _ _)
   | (with_reducible exact LeO.refl _)
   | (with_reducible exact LeO.none _)
   | (with_reducible refine LeO.ite ?_ ?_)
   | (with_reducible refine LeO.bind ?_ (fun _ => ?_))
   | exact ih0 _ _ _ _ _
   | exact spec_l08Code.mono _ _ _ _ _
   | exact spec_l08Run.mono _ _ _ _ _
   | exact LeO.none _
   | refine LeO.ite ?_ ?_
   | refine LeO.bind ?_ (fun _ => ?_)
theorem spec_CountEnds.calls (k : Nat) (A0_0 : Option Addr) (c0_0 : Nat) (l0_0 : List (List Int)) (A0_1 : Option Addr) (c0_1 : Nat) (l0_1 : List Int) (a1 : Int) (r1 : List Int) (r2 : Int) (w : World) (hr0_0 : Kd.C (Kd.slice 2 (Kd.int .i64)) w A0_0 l0_0.length l0_0) (hc0_0 : l0_0.length ≤ c0_0) (hr0_1 : Kd.C (Kd.int .i64) w A0_1 l0_1.length l0_1) (hc0_1 : l0_1.length ≤ c0_1) (h : spec_CountEnds.f k l0_0 l0_1 a1 = some (r1, r2)) :
  Calls Try.prog 38 #[.agg #[.slice A0_0 l0_0.length c0_0, .slice A0_1 l0_1.length c0_1], .int .i64 a1] w fun e w' => ∃ v0_ : Value, e = .returned (.tuple #[v0_, .int .i64 r2]) ∧ Kd.R (Kd.int .i64) 2 w' w.heap.size (fun _ => True) v0_ r1 ∧ Below w.heap.size w w' := by
 have hu29 := Try.underlying29
 have HR0_0 := Aside0.mk hr0_0
 have HC0_0 := Aside0.mk hc0_0
 clear hr0_0 hc0_0
 have HR0_1 := Aside0.mk hr0_1
 have HC0_1 := Aside0.mk hc0_1
 clear hr0_1 hc0_1
 have HB := Aside0.mk (Below.refl w.heap.size w)
 have H : ((spec_l08Code.f k l0_0 l0_1 0 a1).bind fun t760 => (if t760 = 0 then (if 3 ≤ 35184372088832 then (spec_CountEnds.l0 k a1 (List.replicate 3 0) 0 l0_0 l0_1) else (none)) else (some (([] : List Int), t760)))) = some (r1, r2) := h
 clear h
 replace H := Option.bind_eq_some_iff.mp H
 obtain ⟨t760, A30, H⟩ := H
 replace H : (if t760 = 0 then (if 3 ≤ 35184372088832 then (spec_CountEnds.l0 k a1 (List.replicate 3 0) 0 l0_0 l0_1) else (none)) else (some (([] : List Int), t760))) = some (r1, r2) := H
 have A3 := Aside0.mk A30
 clear A30
 by_cases c4 : t760 = 0
 ·rw [if_pos c4] at H
  have c4b0 : (t760 == 0) = true := beq_iff_eq.mpr c4
  have c4b1 : (t760 != 0) = false := bne_eq_false_iff_eq.mpr c4
  clear c4
  by_cases c5 : 3 ≤ 35184372088832
  ·rw [if_pos c5] at H
   have c5b0 := eq_true c5
   have c5b1 : decide (3 ≤ 35184372088832) = true := decide_eq_true c5
   clear c5
   obtain ⟨y761, hy761⟩ : ∃ y_ : List Int, y_ = (List.replicate 3 0) := ⟨_, rfl⟩
   replace H : (spec_CountEnds.l0 k a1 y761 0 l0_0 l0_1) = some (r1, r2) := by first | (rw [hy761]; with_reducible exact H) | (have H2_ := (Option.bind_some _ _).symm.trans H; rw [hy761]; with_reducible exact H2_) | (have H2_ := (Option.bind_some _ _).symm.trans H; with_reducible exact H2_) | with_reducible exact H | (rw [hy761]; exact H) | exact H
   have Ny761 := Aside0.mk hy761
   clear hy761
   have H' := Aside0.mk H
   clear H
   go_enter Try.func38, Try.ntmps38
   go_wp2_with (first | ((with_reducible refine gate_dst (N := 2) rfl ?_); refine box_event ?hg (N := 2) ?hd (cs := #[.slice A0_0 l0_0.length c0_0, .slice A0_1 l0_1.length c0_1]) (t := 29) ?hr ?_; (case hd => rfl); (case hg => rfl); (case hr => first | (go_simp; done) | (go_simp; rfl)); intro gb759 hg w6 hbox hb; have n0_ := Aside0.mk (below_step (by repeat (first | (with_reducible first | exact HB.out | apply below_alloc | apply pw_below_drewN | apply below_drew1) | exact HB.out)) hb); have n1_ := Aside0.mk (hbox); have n2_ := Aside0.mk ((by rw [hg]; exact (below_size (by repeat (first | (with_reducible first | exact HB.out | apply below_alloc | apply pw_below_drewN | apply below_drew1) | exact HB.out))) : w.heap.size ≤ gb759)); have n3_ := Aside0.mk ((by rw [hg]; exact (below_size (by repeat (first | (with_reducible first | exact HB.out | apply below_alloc | apply pw_below_drewN | apply below_drew1) | exact HB.out))) : w.heap.size ≤ gb759)); clear HB; have HB := n0_; have BK759 := n1_; have GW759 := n2_; have GE759 := n3_; clear n0_ n1_ n2_ n3_; clear hb hbox hg; have hcz7_0 : w6.cell? ⟨gb759, 0, none⟩ = some (.slice A0_0 l0_0.length c0_0) := (blk_cell BK759.out 0).trans rfl; have hcz7_1 : w6.cell? ⟨gb759, 1, none⟩ = some (.slice A0_1 l0_1.length c0_1) := (blk_cell BK759.out 1).trans rfl; have hfz7_0 := blk_frozen BK759.out 0; have hfz7_1 := blk_frozen BK759.out 1) | ((with_reducible refine gate_callee (f := 78) rfl ?_); refine goesL_ (some 13) rfl rfl Try.func78 (by kernel_rfl) rfl #[.agg #[.slice A0_0 l0_0.length c0_0, .slice A0_1 l0_1.length c0_1], .int .i64 0, .int .i64 a1] rfl (by (try simp only [List.map_toArray, List.map_cons, List.map_nil]); first | done | rfl | (simp only [List.length_drop, List.length_take]; rfl)) ?_; (with_reducible refine (spec_l08Code.calls k _ _ l0_0 _ _ l0_1 0 a1 t760 _ ?side1 ?side2 ?side3 ?side4 A3.out).mono ?_); (case side1 => repeat (first | exact (Kd.C_below HR0_0.out HB.out) | (with_reducible refine Kd.C_alloc ?_ _) | (with_reducible refine Kd.C_drewN ?_ _) | (with_reducible refine Kd.C_drew ?_))); (case side2 => exact HC0_0.out); (case side3 => repeat (first | exact (Kd.C_below HR0_1.out HB.out) | (with_reducible refine Kd.C_alloc ?_ _) | (with_reducible refine Kd.C_drewN ?_ _) | (with_reducible refine Kd.C_drew ?_))); (case side4 => exact HC0_1.out); rintro e w8 ⟨rfl, hb⟩; refine ⟨_, rfl, ?_⟩; have n0_ := Aside0.mk (blk_below (g := gb759) (o := .cells #[.slice A0_0 l0_0.length c0_0, .slice A0_1 l0_1.length c0_1] 29 (0, 0)) (by (with_reducible repeat (first | refine blk_drewN ?_ _ | refine blk_drew ?_ | refine blk_alloc ?_ _)); exact BK759.out) hb); have n1_ := Aside0.mk (below_step (by repeat (first | (with_reducible first | exact HB.out | apply below_alloc | apply pw_below_drewN | apply below_drew1 | refine below_set ?_ GE759.out) | exact HB.out)) hb); clear BK759; clear HB; have BK759 := n0_; have HB := n1_; clear n0_ n1_; (try clear hb); (try clear hb2); (try clear hk); (try clear hi)) | ((with_reducible refine gate_dst (N := 17) rfl ?_); refine Kd.R_make (Kd.int .i64) _ 2 rfl (N := 17) rfl 23 _ _ rfl 3 rfl rfl Try.underlying23 (.int .i64 0) 8 info2 rfl (by decide) (by omega) 0 (ok := fun _ => True) (okp := fun _ => True) rfl (fun _ hk => hk) trivial (by omega) (by omega) (Below.refl _ _) (Nat.le_refl _) ?_; intro v762 w9 ho10 hb hg_ hnew_; clear hg_ hnew_; (first | rw [← Ny761.out] at ho10 | (simp only [Int.reduceToNat] at ho10; rw [← Ny761.out] at ho10)); have n0_ := Aside0.mk (Kd.R_lower ho10 (below_size (by repeat (first | (with_reducible first | exact HB.out | apply below_alloc | apply pw_below_drewN | apply below_drew1 | refine below_set ?_ GE759.out) | exact HB.out)))); have n1_ := Aside0.mk (blk_below (g := gb759) (o := .cells #[.slice A0_0 l0_0.length c0_0, .slice A0_1 l0_1.length c0_1] 29 (0, 0)) (by (with_reducible repeat (first | refine blk_drewN ?_ _ | refine blk_drew ?_ | refine blk_alloc ?_ _)); exact BK759.out) hb); have n2_ := Aside0.mk (below_step (by repeat (first | (with_reducible first | exact HB.out | apply below_alloc | apply pw_below_drewN | apply below_drew1 | refine below_set ?_ GE759.out) | exact HB.out)) hb); clear BK759; clear HB; have HO763 := n0_; have BK759 := n1_; have HB := n2_; clear n0_ n1_ n2_; clear hb ho10))
   go_loopg [8] k (fun kq v8 w' => ∃ (x7_1 : List Int) (x8_1 : Int), v8 = .int .i64 x8_1 ∧ Aside0 (spec_CountEnds.l0 kq a1 x7_1 x8_1 l0_0 l0_1 = some (r1, r2)) ∧ Aside0 (kq ≤ k) ∧ Aside0 (Kd.R (Kd.int .i64) 2 w' w.heap.size (fun _ => True) v762 x7_1) ∧ Aside0 (w'.heap[gb759]? = some (.cells #[(.slice A0_0 l0_0.length c0_0), (.slice A0_1 l0_1.length c0_1)] 29 (0, 0))) ∧ Aside0 (Below w.heap.size w w'))
   case atStart => exact ⟨(y761), (0), (by first | rfl | (simp; done) | (simp [*]; done)), H', ⟨Nat.le_refl _⟩, ⟨by (with_reducible repeat (first | apply Kd.R_alloc | apply Kd.R_drewN | apply Kd.R_drew)); exact HO763.out⟩, ⟨by (with_reducible repeat (first | refine blk_drewN ?_ _ | refine blk_drew ?_ | refine blk_alloc ?_ _)); exact BK759.out⟩, ⟨by repeat (first | (with_reducible first | exact HB.out | apply below_alloc | apply pw_below_drewN | apply below_drew1 | refine below_set ?_ GE759.out) | exact HB.out)⟩⟩
   case round =>
    clear H'
    try clear p2
    try clear c3
    try clear c4
    try clear c4b0
    try clear c4b1
    try clear c5
    try clear c5b0
    try clear c5b1
    try clear c7
    try clear hcz7_0
    try clear hcz7_1
    try clear hfz7_0
    try clear hfz7_1
    obtain ⟨x7_1, x8_1, rfl, HA, HK1, HO_7, BK759, HB⟩ := hrel
    cases gk with
    | zero => exact absurd HA.out (by simp [spec_CountEnds.l0])
    | succ k1 =>
     have H := HA.out
     clear HA
     simp only [spec_CountEnds.l0] at H
     obtain ⟨ji11, hji11⟩ : ∃ j_ : Int, (IntKind.u64.wrap ((l0_1.length : Int))) = j_ := ⟨_, rfl⟩
     replace H : (if 0 ≤ (ji11) then (if x8_1 < (shl .i64 1 (ji11)) then ((spec_l08Run.f k1 l0_0 l0_1 x8_1 a1).bind fun bt764 => (if 0 ≤ bt764.2 then (if bt764.2 < (x7_1.length : Int) then (spec_CountEnds.l0 k1 a1 (x7_1.set (bt764.2 : Int).toNat (wrap64 ((rd x7_1 bt764.2) + 1))) (wrap64 (x8_1 + 1)) l0_0 l0_1) else (none)) else (none))) else (some (x7_1, 0))) else (none)) = some (r1, r2) := by first | (rw [hji11] at H; exact H) | (simp only [hji11] at H ⊢; exact H)
     by_cases c12 : 0 ≤ (ji11)
     ·rw [if_pos c12] at H
      have c12b0 := eq_true c12
      have c12b1 : decide (0 ≤ (ji11)) = true := decide_eq_true c12
      clear c12
      obtain ⟨ji13, hji13⟩ : ∃ j_ : Int, (shl .i64 1 (ji11)) = j_ := ⟨_, rfl⟩
      replace H : (if x8_1 < (ji13) then ((spec_l08Run.f k1 l0_0 l0_1 x8_1 a1).bind fun bt764 => (if 0 ≤ bt764.2 then (if bt764.2 < (x7_1.length : Int) then (spec_CountEnds.l0 k1 a1 (x7_1.set (bt764.2 : Int).toNat (wrap64 ((rd x7_1 bt764.2) + 1))) (wrap64 (x8_1 + 1)) l0_0 l0_1) else (none)) else (none))) else (some (x7_1, 0))) = some (r1, r2) := by first | (rw [hji13] at H; exact H) | (simp only [hji13] at H ⊢; exact H)
      have hji13_ : (IntKind.i64.wrap (1 * 2 ^ min (ji11).toNat 64)) = ji13 := hji13
      have hji13z : (ji11) ≤ 64 → (IntKind.i64.wrap (1 * 2 ^ (ji11).toNat)) = ji13 := shl_small hji13
      have hji13u : (IntKind.i64.wrap (2 ^ min (ji11).toNat 64)) = ji13 := by have h_ := hji13_; rw [Int.one_mul] at h_; exact h_
      have hji13v : (ji11) ≤ 64 → (IntKind.i64.wrap (2 ^ (ji11).toNat)) = ji13 := fun hle_ => by have h_ := hji13z hle_; rw [Int.one_mul] at h_; exact h_
      have hji13y : (wrap64 (1 * 2 ^ min (ji11).toNat 64)) = ji13 := (i64_w _).symm.trans hji13_
      have hji13x : (ji11) ≤ 64 → (wrap64 (1 * 2 ^ (ji11).toNat)) = ji13 := fun h_ => (i64_w _).symm.trans (hji13z h_)
      by_cases c14 : x8_1 < (ji13)
      ·rw [if_pos c14] at H
       have c14b0 : decide (x8_1 < (ji13)) = true := decide_eq_true c14
       clear c14
       replace H := Option.bind_eq_some_iff.mp H
       obtain ⟨⟨t764, t767⟩, A150, H⟩ := H
       replace H : (if 0 ≤ t767 then (if t767 < (x7_1.length : Int) then (spec_CountEnds.l0 k1 a1 (x7_1.set (t767 : Int).toNat (wrap64 ((rd x7_1 t767) + 1))) (wrap64 (x8_1 + 1)) l0_0 l0_1) else (none)) else (none)) = some (r1, r2) := H
       have A15 := Aside0.mk A150
       clear A150
       by_cases c16 : 0 ≤ t767
       ·rw [if_pos c16] at H
        have c16b0 : decide (0 ≤ t767) = true := decide_eq_true c16
        clear c16
        by_cases c17 : t767 < (x7_1.length : Int)
        ·rw [if_pos c17] at H
         have c17b0 : decide (t767 < (x7_1.length : Int)) = true := decide_eq_true c17
         clear c17
         obtain ⟨y769, hy769⟩ : ∃ y_ : List Int, y_ = (x7_1.set (t767 : Int).toNat (wrap64 ((rd x7_1 t767) + 1))) := ⟨_, rfl⟩
         replace H : (spec_CountEnds.l0 k1 a1 y769 (wrap64 (x8_1 + 1)) l0_0 l0_1) = some (r1, r2) := by first | (rw [hy769]; with_reducible exact H) | (have H2_ := (Option.bind_some _ _).symm.trans H; rw [hy769]; with_reducible exact H2_) | (have H2_ := (Option.bind_some _ _).symm.trans H; with_reducible exact H2_) | with_reducible exact H | (rw [hy769]; exact H) | exact H
         have Ny769 := Aside0.mk hy769
         clear hy769
         have H' := Aside0.mk H
         clear H
         have hcz19_0 : wr.cell? ⟨gb759, 0, none⟩ = some (.slice A0_0 l0_0.length c0_0) := (blk_cell BK759.out 0).trans rfl
         have hcz19_1 : wr.cell? ⟨gb759, 1, none⟩ = some (.slice A0_1 l0_1.length c0_1) := (blk_cell BK759.out 1).trans rfl
         have hfz19_0 := blk_frozen BK759.out 0
         have hfz19_1 := blk_frozen BK759.out 1
         go_wp2_with (first | ((with_reducible refine gate_callee (f := 79) rfl ?_); refine goesL_ (some 31) rfl rfl Try.func79 (by kernel_rfl) rfl #[.agg #[.slice A0_0 l0_0.length c0_0, .slice A0_1 l0_1.length c0_1], .int .i64 x8_1, .int .i64 a1] rfl (by (try simp only [List.map_toArray, List.map_cons, List.map_nil]); first | done | rfl | (simp only [List.length_drop, List.length_take]; rfl)) ?_; (with_reducible refine (spec_l08Run.calls k1 _ _ l0_0 _ _ l0_1 x8_1 a1 t764 t767 _ ?side1 ?side2 ?side3 ?side4 A15.out).mono ?_); (case side1 => repeat (first | exact (Kd.C_below HR0_0.out HB.out) | (with_reducible refine Kd.C_alloc ?_ _) | (with_reducible refine Kd.C_drewN ?_ _) | (with_reducible refine Kd.C_drew ?_))); (case side2 => exact HC0_0.out); (case side3 => repeat (first | exact (Kd.C_below HR0_1.out HB.out) | (with_reducible refine Kd.C_alloc ?_ _) | (with_reducible refine Kd.C_drewN ?_ _) | (with_reducible refine Kd.C_drew ?_))); (case side4 => exact HC0_1.out); rintro e w20 ⟨v765, rfl, ho0, hb⟩; refine ⟨_, rfl, ?_⟩; have n0_ := Aside0.mk (Kd.R_elder' (by (with_reducible repeat (first | apply Kd.R_alloc | apply Kd.R_drewN | apply Kd.R_drew)); exact HO_7.out) (Kd.R_base ho0) hb); have n1_ := Aside0.mk (Kd.R_lower (Kd.R_new' ho0 (Kd.R_lt (by (with_reducible repeat (first | apply Kd.R_alloc | apply Kd.R_drewN | apply Kd.R_drew)); exact HO_7.out))) (below_size (by repeat (first | (with_reducible first | exact HB.out | apply below_alloc | apply pw_below_drewN | apply below_drew1 | refine below_set ?_ GE759.out) | exact HB.out)))); have n2_ := Aside0.mk (blk_below (g := gb759) (o := .cells #[.slice A0_0 l0_0.length c0_0, .slice A0_1 l0_1.length c0_1] 29 (0, 0)) (by (with_reducible repeat (first | refine blk_drewN ?_ _ | refine blk_drew ?_ | refine blk_alloc ?_ _)); exact BK759.out) hb); have n3_ := Aside0.mk (below_step (by repeat (first | (with_reducible first | exact HB.out | apply below_alloc | apply pw_below_drewN | apply below_drew1 | refine below_set ?_ GE759.out) | exact HB.out)) hb); clear HO_7; clear BK759; clear HB; have HO_7 := n0_; have HO766 := n1_; have BK759 := n2_; have HB := n3_; clear n0_ n1_ n2_ n3_; (try clear hb); (try clear hb2); (try clear hk); (try clear hi); (try clear ho0); obtain ⟨Ao21, co21, eo21⟩ := Kd.R_slice HO_7.out; subst eo21; have p768 : 0 ≤ (t767 : Int) := of_decide_eq_true (by first | (with_reducible assumption) | assumption); have q768 : t767 < (x7_1.length : Int) := of_decide_eq_true (by first | (with_reducible assumption) | assumption); obtain ⟨ad768, e768, hx768_0⟩ := Kd.at_int (Kd.R_reads' HO_7.out).2.2 t767 p768 q768; cases e768; replace p768 := eq_true p768; replace q768 := eq_true q768; have p18 : 0 ≤ (t767 : Int) := of_decide_eq_true (by first | (with_reducible assumption) | assumption); have q18 : (t767 : Int) < ((x7_1.length : Int) : Int) := of_decide_eq_true (by first | (with_reducible assumption) | assumption); obtain ⟨go18, co18, eo18, gb18, gl18, cl18, HG18⟩ := Kd.R_form HO_7.out (by omega); (first | cases eo18 | (injection eo18 with ea_ en_ ec_; (first | subst ea_ | (injection ea_ with ea_; subst ea_)); subst ec_; clear en_)); have GB18 := Aside0.mk gb18; have GG18 := Aside0.mk HG18; clear gb18 gl18 HG18; (first | simp only [add_plain] at hx768_0 | skip); obtain ⟨hx18_0, hf18_0⟩ := Kd.R_celln 0 HO_7.out (t767 : Int) p18 q18; replace p18 := eq_true p18; replace q18 := eq_true q18; have n_ := Aside0.mk (Kd.R_mono (ok' := (fun k_ => some k_ ≠ (v765 : Value).ownBlock)) HO_7.out (fun k_ hk => hk.2)); clear HO_7; have HO_7 := n_; clear n_; obtain ⟨hy22_, hz22_⟩ := Kd.R_celln 0 HO_7.out (t767 : Int) (of_decide_eq_true (by first | (with_reducible assumption) | assumption)) (of_decide_eq_true (by first | (with_reducible assumption) | assumption)); have HP22 := Kd.R_putg HO_7.out (t767 : Int) (wrap64 ((rd x7_1 t767) + 1))) | ((with_reducible refine gate_store (t := 2) (p := 39) rfl ?_); refine store_event (t := 2) (p := 39) (v := ?vo_w23) (w1 := (w20.setCell ⟨go18, (t767 : Int).toNat, none⟩ (.int .i64 (wrap64 ((rd x7_1 t767) + 1))))) ?hg ?ho ?hn ?hr ?_; (case ho => rfl); (case hg => rfl); (case hn => rfl); (case hr => first | (go_simp; done) | (go_simp; rfl)); intro w23 hw; have hg : w20.grownBy w23 (some go18) := (by rw [hw]; exact HP22.2); have hp_ : Kd.R (Kd.int .i64) 2 w23 w.heap.size (fun k_ => some k_ ≠ (v765 : Value).ownBlock) (.slice (some ⟨go18, 0, none⟩) x7_1.length co21) y769 := (by rw [hw, Ny769.out]; exact HP22.1); clear HP22; have n0_ := Aside0.mk (hp_); have n1_ := Aside0.mk (blk_grown (g := gb759) (o := .cells #[.slice A0_0 l0_0.length c0_0, .slice A0_1 l0_1.length c0_1] 29 (0, 0)) (by (with_reducible repeat (first | refine blk_drewN ?_ _ | refine blk_drew ?_ | refine blk_alloc ?_ _)); exact BK759.out) hg (Kd.R_ne HO_7.out BK759.out (by decide))); have n2_ := Aside0.mk (Kd.R_after (v := (.slice (some ⟨go18, 0, none⟩) x7_1.length co21)) (v1 := (.slice (some ⟨go18, 0, none⟩) x7_1.length co21)) (ok := (fun _ => True)) (by (with_reducible repeat (first | apply Kd.R_alloc | apply Kd.R_drewN | apply Kd.R_drew)); exact HO766.out) hg (.inl rfl)); have n3_ := Aside0.mk ((by rw [hw]; exact below_set (HB.out) GB18.out : Below w.heap.size w w23)); clear HO_7; clear BK759; clear HO766; clear HB; have HO_7 := n0_; have BK759 := n1_; have HO766 := n2_; have HB := n3_; clear n0_ n1_ n2_ n3_; clear hg hw hp_))
         go_roundg k1
         case measure => have := HK1.out; omega
         case rel => exact ⟨(y769), (wrap64 (x8_1 + 1)), (by first | rfl | (simp; done) | (simp [*]; done)), H', ⟨by have := HK1.out; omega⟩, ⟨by (with_reducible repeat (first | apply Kd.R_alloc | apply Kd.R_drewN | apply Kd.R_drew)); exact Kd.R_mono HO_7.out (fun _ hk => trivial)⟩, ⟨by (with_reducible repeat (first | refine blk_drewN ?_ _ | refine blk_drew ?_ | refine blk_alloc ?_ _)); exact BK759.out⟩, ⟨by repeat (first | (with_reducible first | exact HB.out | apply below_alloc | apply pw_below_drewN | apply below_drew1 | refine below_set ?_ GE759.out) | exact HB.out)⟩⟩
        ·rw [if_neg c17] at H
         exact absurd H (by simp)
       ·rw [if_neg c16] at H
        exact absurd H (by simp)
      ·rw [if_neg c14] at H
       have c14b0 : decide (x8_1 < (ji13)) = false := decide_eq_false c14
       clear c14
       simp only [Option.some.injEq, Prod.mk.injEq] at H
       obtain ⟨rfl, rfl⟩ := H
       have hcz24_0 : wr.cell? ⟨gb759, 0, none⟩ = some (.slice A0_0 l0_0.length c0_0) := (blk_cell BK759.out 0).trans rfl
       have hcz24_1 : wr.cell? ⟨gb759, 1, none⟩ = some (.slice A0_1 l0_1.length c0_1) := (blk_cell BK759.out 1).trans rfl
       have hfz24_0 := blk_frozen BK759.out 0
       have hfz24_1 := blk_frozen BK759.out 1
       go_wp2
       go_ret2
       exact ⟨_, by first | rfl | (simp [errW_none, errW_some] <;> rfl) | (simp only [← hji11, ← hji13]; first | rfl | (simp [errW_none, errW_some] <;> rfl)) | (simp [*, errW_none, errW_some] <;> rfl), by (with_reducible repeat (first | apply Kd.R_alloc | apply Kd.R_drewN | apply Kd.R_drew)); exact HO_7.out, by repeat (first | (with_reducible first | exact HB.out | apply below_alloc | apply pw_below_drewN | apply below_drew1 | refine below_set ?_ GE759.out) | exact HB.out)⟩
     ·rw [if_neg c12] at H
      exact absurd H (by simp)
  ·rw [if_neg c5] at H
   exact absurd H (by simp)
 ·rw [if_neg c4] at H
  have c4b0 : (t760 == 0) = false := beq_eq_false_iff_ne.mpr c4
  have c4b1 : (t760 != 0) = true := bne_iff_ne.mpr c4
  simp only [Option.some.injEq, Prod.mk.injEq] at H
  obtain ⟨rfl, rfl⟩ := H
  go_enter Try.func38, Try.ntmps38
  go_wp2_with (first | ((with_reducible refine gate_dst (N := 2) rfl ?_); refine box_event ?hg (N := 2) ?hd (cs := #[.slice A0_0 l0_0.length c0_0, .slice A0_1 l0_1.length c0_1]) (t := 29) ?hr ?_; (case hd => rfl); (case hg => rfl); (case hr => first | (go_simp; done) | (go_simp; rfl)); intro gb759 hg w25 hbox hb; have n0_ := Aside0.mk (below_step (by repeat (first | (with_reducible first | exact HB.out | apply below_alloc | apply pw_below_drewN | apply below_drew1) | exact HB.out)) hb); have n1_ := Aside0.mk (hbox); have n2_ := Aside0.mk ((by rw [hg]; exact (below_size (by repeat (first | (with_reducible first | exact HB.out | apply below_alloc | apply pw_below_drewN | apply below_drew1) | exact HB.out))) : w.heap.size ≤ gb759)); have n3_ := Aside0.mk ((by rw [hg]; exact (below_size (by repeat (first | (with_reducible first | exact HB.out | apply below_alloc | apply pw_below_drewN | apply below_drew1) | exact HB.out))) : w.heap.size ≤ gb759)); clear HB; have HB := n0_; have BK759 := n1_; have GW759 := n2_; have GE759 := n3_; clear n0_ n1_ n2_ n3_; clear hb hbox hg; have hcz26_0 : w25.cell? ⟨gb759, 0, none⟩ = some (.slice A0_0 l0_0.length c0_0) := (blk_cell BK759.out 0).trans rfl; have hcz26_1 : w25.cell? ⟨gb759, 1, none⟩ = some (.slice A0_1 l0_1.length c0_1) := (blk_cell BK759.out 1).trans rfl; have hfz26_0 := blk_frozen BK759.out 0; have hfz26_1 := blk_frozen BK759.out 1) | ((with_reducible refine gate_callee (f := 78) rfl ?_); refine goesL_ (some 13) rfl rfl Try.func78 (by kernel_rfl) rfl #[.agg #[.slice A0_0 l0_0.length c0_0, .slice A0_1 l0_1.length c0_1], .int .i64 0, .int .i64 a1] rfl (by (try simp only [List.map_toArray, List.map_cons, List.map_nil]); first | done | rfl | (simp only [List.length_drop, List.length_take]; rfl)) ?_; (with_reducible refine (spec_l08Code.calls k _ _ l0_0 _ _ l0_1 0 a1 t760 _ ?side1 ?side2 ?side3 ?side4 A3.out).mono ?_); (case side1 => repeat (first | exact (Kd.C_below HR0_0.out HB.out) | (with_reducible refine Kd.C_alloc ?_ _) | (with_reducible refine Kd.C_drewN ?_ _) | (with_reducible refine Kd.C_drew ?_))); (case side2 => exact HC0_0.out); (case side3 => repeat (first | exact (Kd.C_below HR0_1.out HB.out) | (with_reducible refine Kd.C_alloc ?_ _) | (with_reducible refine Kd.C_drewN ?_ _) | (with_reducible refine Kd.C_drew ?_))); (case side4 => exact HC0_1.out); rintro e w27 ⟨rfl, hb⟩; refine ⟨_, rfl, ?_⟩; have n0_ := Aside0.mk (blk_below (g := gb759) (o := .cells #[.slice A0_0 l0_0.length c0_0, .slice A0_1 l0_1.length c0_1] 29 (0, 0)) (by (with_reducible repeat (first | refine blk_drewN ?_ _ | refine blk_drew ?_ | refine blk_alloc ?_ _)); exact BK759.out) hb); have n1_ := Aside0.mk (below_step (by repeat (first | (with_reducible first | exact HB.out | apply below_alloc | apply pw_below_drewN | apply below_drew1 | refine below_set ?_ GE759.out) | exact HB.out)) hb); clear BK759; clear HB; have BK759 := n0_; have HB := n1_; clear n0_ n1_; (try clear hb); (try clear hb2); (try clear hk); (try clear hi)))
  go_ret2
  exact ⟨_, by first | rfl | (simp [errW_none, errW_some] <;> rfl) | (simp [*, errW_none, errW_some] <;> rfl), by first | exact Kd.R_nil _ _ _ _ _ | exact Kd.N_nil _ _ _ _ _ | exact Kd.V_nil _ _ _ _ _ | exact Kd.Q_nil _ _ _ _ _ | exact Kd.S_nil _ _ _ _ _, by repeat (first | (with_reducible first | exact HB.out | apply below_alloc | apply pw_below_drewN | apply below_drew1 | refine below_set ?_ GE759.out) | exact HB.out)⟩
end Go.Proofs.Ythdoilfjcgickaa.Pr
end
