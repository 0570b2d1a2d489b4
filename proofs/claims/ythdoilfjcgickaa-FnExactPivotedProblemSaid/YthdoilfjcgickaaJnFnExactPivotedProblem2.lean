/- Texts of one claim (the words of the kit's print that the claim uses, printed functions, and this session's own texts), joined in the order of their imports by this session's own program (merge.py). -/
import Derived.Test.YthdoilfjcgickaaJnFnExactPivotedProblem0
import Derived.Test.YthdoilfjcgickaaJnFnExactPivotedProblem1
set_option linter.unusedVariables false
set_option linter.unusedSimpArgs false
set_option maxHeartbeats 8000000
set_option maxRecDepth 100000
section
namespace Go.Proofs.Ythdoilfjcgickaa.Hd
open Go.RowKit Go.Proofs.YthdoilfjcgickaaW.PrintWords Go.Proofs.YthdoilfjcgickaaW.PrintLast Go.Proofs.YthdoilfjcgickaaW.PrintMore Go.Proofs.Ythdoilfjcgickaa.Pr Go.Proofs.Ythdoilfjcgickaa.La Go.Proofs.Ythdoilfjcgickaa.Ma Go.Proofs.Ythdoilfjcgickaa.Hm Go.Proofs.Ythdoilfjcgickaa.Dt Go.Proofs.Ythdoilfjcgickaa.Bd Go.Proofs.Ythdoilfjcgickaa.Cp
def dO (n : Nat) (M : Mat) : Int := dgo n n 0 (en (rowsFrom M n 0)) 1 1
theorem rowsFrom_rows (M : Mat) (n i : Nat) : ∀ x ∈ rowsFrom M n i, x.length = n := by
 intro x hx
 obtain ⟨r, _, rfl⟩ := List.mem_map.1 hx
 simp
section
variable {w0 w w1 : World} {g n cap : Nat} {b cp : Nat → Nat} {M : Mat}
theorem Own.low (h : Own w1 w g n b cp M) (hB : Below w0.heap.size w0 w1) : Own w0 w g n b cp M :=
 ⟨Below.trans hB (h.below.mono hB.size), Nat.le_trans hB.size h.gb, fun j hj => Nat.le_trans hB.size (h.bb j hj), h.inj, h.ne, h.cap, h.og, h.ob⟩
theorem Own.far (h : Own w0 w g n b cp M) {p : Addr} (hp : w0.heap.size ≤ p.block) (h1 : p.block ≠ g) (h2 : ∀ j, j < n → b j ≠ p.block) (v : Value) : Own w0 (w.setCell p v) g n b cp M :=
  ⟨h.below.setCell hp v, h.gb, h.bb, h.inj, h.ne, h.cap,
   fun j hj => ⟨by rw [cset_other (by intro e; exact h1 (congrArg Addr.block e))]; exact (h.og j hj).1, by rw [fset]; exact (h.og j hj).2⟩,
   fun j c hj hc => ⟨by rw [cset_other (by intro e; exact h2 j hj (congrArg Addr.block e).symm)]; exact (h.ob j c hj hc).1, by rw [fset]; exact (h.ob j c hj hc).2⟩⟩
theorem det_own (h : Own w0 w g n b cp M) (hcap : n ≤ cap) (hp : 0 < n) (hn : n ≤ 1000) :
  Calls Try.prog 143 #[.slice (some ⟨g, 0, none⟩) n cap] w fun e w' => e = .returned (.int .i64 (dO n M)) ∧ Below w.heap.size w w' :=
 det_calls n (dO n M) (some ⟨g, 0, none⟩) cap (rowsFrom M n 0) w (h.C 0 (by omega)) (by rw [rowsFrom_len]; omega) (by rw [rowsFrom_len]; omega) hp hn (fun x hx => by rw [rowsFrom_rows M n 0 x hx, rowsFrom_len]; omega) rfl
theorem copy_own (h : Own w0 w g n b cp M) (hcap : n ≤ cap) (hp : 0 < n) (hn : n ≤ 1000) :
  Calls Try.prog 134 #[.slice (some ⟨g, 0, none⟩) n cap] w fun e w' => ∃ (g2 cap2 : Nat) (b2 cp2 : Nat → Nat), e = .returned (.slice (some ⟨g2, 0, none⟩) n cap2) ∧ n ≤ cap2 ∧ Own w w' g2 n b2 cp2 (en (rowsFrom M n 0)) := by
 have hl : (rowsFrom M n 0).length = n := by rw [rowsFrom_len]; omega
 obtain ⟨k, hk⟩ := evk (copy_eq (rowsFrom M n 0) (by omega) (fun x hx => by rw [rowsFrom_rows M n 0 x hx]; omega))
 have hc := impl_copyRows.calls k (some ⟨g, 0, none⟩) cap (rowsFrom M n 0) (rowsFrom M n 0) w (h.C 0 (by omega)) (by omega) hk
 rw [hl] at hc
 refine hc.mono ?_
 rintro e w' ⟨v, rfl, hS, hB⟩
 obtain ⟨g2, cap2, b2, cp2, rfl, h1, h2⟩ := own_of_S (w0 := w) hS hB (by omega) (fun x hx => by rw [rowsFrom_rows M n 0 x hx, hl])
 rw [hl] at h1 h2 ⊢
 exact ⟨g2, cap2, b2, cp2, rfl, h1, h2⟩
end
def sl (n : Nat) (C : Mat) (right : List Int) (sg : Int) (i : Nat) : Int := wrap64 (sg * dO n (pcol (en (rowsFrom C n 0)) i right n))
def slL (n : Nat) (C : Mat) (right : List Int) (sg : Int) (i : Nat) : List Int := (List.range n).map fun u => if u < i then sl n C right sg u else 0
theorem slL_zero (n : Nat) (C : Mat) (right : List Int) (sg : Int) : List.replicate n (0 : Int) = slL n C right sg 0 := by
 apply List.ext_getElem
 ·simp [slL]
 ·intro k h1 h2; simp [slL]
theorem slL_next (n : Nat) (C : Mat) (right : List Int) (sg : Int) (i : Nat) (h : i < n) : (slL n C right sg i).set i (sl n C right sg i) = slL n C right sg (i + 1) := by
 apply List.ext_getElem
 ·simp [slL]
 ·intro k h1 h2
  have hk : k < n := by simpa [slL] using h2
  rw [List.getElem_set]
  simp only [slL, List.getElem_map, List.getElem_range]
  by_cases e : i = k
  ·subst e; rw [if_pos rfl, if_pos (by omega)]
  ·rw [if_neg e]
   by_cases c : k < i
   ·rw [if_pos c, if_pos (by omega)]
   ·rw [if_neg c, if_neg (by omega)]
theorem solve_calls (k n : Nat) (s D sg sz : Int) (cl : Nat → List Int) (A0 : Option Addr) (c0 : Nat) (M : List (List Int)) (A1 : Option Addr) (c1 : Nat) (Q : List Int) (A2 : Option Addr) (c2 : Nat) (right : List Int) (w : World) (hr0 : Kd.C (Kd.slice 2 (Kd.int .i64)) w A0 M.length M) (hc0 : M.length ≤ c0) (hr1 : Kd.C (Kd.int .i64) w A1 Q.length Q) (hc1 : Q.length ≤ c1) (hr2 : Kd.C (Kd.int .i64) w A2 right.length right) (hc2 : right.length ≤ c2) (hQ : Q.length = n) (hright : right.length = n) (hp : 0 < n) (hn : n ≤ 1000)
  (hcl : ∀ i, i < n → ∃ t, impl_has.f s (i : Int) = some t ∧ impl_Problem_column.f k M Q (i : Int) t = some (cl i) ∧ (cl i).length = n)
  (hD : dO n (cM cl n) = D) (hsg : impl_sign.f D = some sg) (hsz : impl_size.f D = some sz) :
  Calls Try.prog 107 #[.agg #[.slice A0 M.length c0, .slice A1 Q.length c1], .int .i64 s, .slice A2 right.length c2] w fun e w' => ∃ v0_ : Value, e = .returned (if D = 0 then .tuple #[v0_, .int .i64 0, .bool false] else .tuple #[v0_, .int .i64 sz, .bool true]) ∧ Kd.R (Kd.int .i64) 2 w' w.heap.size (fun _ => True) v0_ (if D = 0 then [] else slL n (cM cl n) right sg n) ∧ Below w.heap.size w w' := by
 have HR0 := Aside0.mk hr0
 have HC0 := Aside0.mk hc0
 have HR1 := Aside0.mk hr1
 have HC1 := Aside0.mk hc1
 have HR2 := Aside0.mk hr2
 have HC2 := Aside0.mk hc2
 have HQ := Aside0.mk hQ
 have HRI := Aside0.mk hright
 have HP := Aside0.mk hp
 have HN := Aside0.mk hn
 have HCL := Aside0.mk hcl
 have HD := Aside0.mk hD
 have HSG := Aside0.mk hsg
 have HSZ := Aside0.mk hsz
 have HB := Aside0.mk (Below.refl w.heap.size w)
 clear hr0 hc0 hr1 hc1 hr2 hc2 hp hn hcl hD hsg hsz hQ
 rw [hright]
 clear hright
 have hn0 : (0 : Int) ≤ (n : Int) := by omega
 go_enter Try.func107, Try.ntmps107
 go_wp2_with (first | ((with_reducible refine gate_dst (N := 3) rfl ?_); refine box_event ?hg (N := 3) ?hd (cs := #[.slice A0 M.length c0, .slice A1 Q.length c1]) (t := 29) ?hr ?_; (case hd => rfl); (case hg => rfl); (case hr => first | (go_simp; done) | (go_simp; rfl)); intro gb hg w6 hbox hb; have n0_ := Aside0.mk (below_step HB.out hb); have n1_ := Aside0.mk hbox; clear HB; have HB := n0_; have BK := n1_; clear n0_ n1_; clear hb hbox hg; have hcz0 : w6.cell? ⟨gb, 0, none⟩ = some (.slice A0 M.length c0) := (blk_cell BK.out 0).trans rfl; have hcz1 : w6.cell? ⟨gb, 1, none⟩ = some (.slice A1 Q.length c1) := (blk_cell BK.out 1).trans rfl))
 refine (columns_calls k n s cl A0 c0 M A1 c1 Q w6 (Kd.C_below HR0.out HB.out) HC0.out (Kd.C_below HR1.out HB.out) HC1.out HQ.out HP.out HN.out HCL.out).mono ?_
 rintro e w7 ⟨g, cap, b, cp, rfl, hcap, hO⟩
 have n0_ := Aside0.mk (hO.low HB.out)
 have HCAP := Aside0.mk hcap
 clear hcz0 hcz1 BK HB hO hcap
 have HO := n0_
 clear n0_
 go_wp2_with fail
 refine (det_own HO.out HCAP.out HP.out HN.out).mono ?_
 rintro e w8 ⟨rfl, hb⟩
 rw [HD.out]
 have n0_ := Aside0.mk (HO.out.step hb)
 clear HO hb
 have HO := n0_
 clear n0_
 by_cases d0 : D = 0
 ·subst d0
  go_wp2
  refine bodyPost_ret (results_list (rs := [.tmp 6, .tmp 7, .tmp 8]) rfl (by simp) (.tmp (.tmp (.tmp .nil)))) rfl ?_
  exact ⟨_, rfl, Kd.R_nil _ _ _ _ _, HO.out.below⟩
 ·have hd0 : (D == 0) = false := by simpa using d0
  have D0 := Aside0.mk d0
  go_wp2_with (first | ((with_reducible refine gate_dst (N := 23) rfl ?_); refine Kd.R_make (w0 := w8) (Kd.int .i64) w8.heap.size 2 rfl (N := 23) rfl 23 _ _ rfl (n : Int) rfl rfl Try.underlying23 (.int .i64 0) 8 info2 rfl (by decide) (by decide) 0 (ok := fun _ => True) (okp := fun _ => True) rfl (fun _ hk => hk) trivial hn0 (by have := HN.out; omega) (Below.refl _ _) (Nat.le_refl _) ?_; intro v23 w9 ho hb hg2 hat; obtain ⟨go, co, rfl, hgo1, hgo2, cells, hgoc⟩ := Kd.R_form ho (by have := HP.out; simp; omega); simp only [Int.toNat_natCast, List.length_replicate] at ho ⊢; rw [slL_zero n (cM cl n) right sg] at ho; have HGO : Aside0 (w8.heap.size ≤ go) := ⟨hgo1⟩; have HGL := Aside0.mk (HO.out.og 0 HP.out).1; have HBL := Aside0.mk (fun j (hj : j < n) => (HO.out.ob j 0 hj HP.out).1); have n0_ := Aside0.mk (HO.out.step hb); have HRO := Aside0.mk (Kd.R_lower ho HO.out.below.size); clear HO; have HO := n0_; clear n0_ ho hb hg2 hat hgo1 hgo2 hgoc))
  have HSEP : Aside0 (w.heap.size ≤ go ∧ go ≠ g ∧ ∀ j, j < n → b j ≠ go) := ⟨by
   have h1 := HGO.out
   have h2 := lt_of_cell HGL.out
   have h3 := HO.out.gb
   refine ⟨?_, ?_, fun j hj => ?_⟩
   ·simp only at h2; omega
   ·simp only at h2; omega
   ·have h4 := lt_of_cell (HBL.out j hj); simp only at h4; omega⟩
  clear HGO HGL HBL
  go_loopg [26] n (fun gg v26 wr => ∃ i : Nat, i ≤ n ∧ n - i ≤ gg ∧ v26 = .int .i64 (i : Int) ∧ Aside0 (Own w wr g n b cp (cM cl n)) ∧ Aside0 (Kd.R (Kd.int .i64) 2 wr w.heap.size (fun _ => True) (.slice (some ⟨go, 0, none⟩) n co) (slL n (cM cl n) right sg i)))
  case atStart => exact ⟨0, Nat.zero_le _, by omega, rfl, HO, HRO⟩
  case round =>
   clear HO HRO
   obtain ⟨i, hi, hg, rfl, HO, HRO⟩ := hrel
   have HG := Aside0.mk hg
   by_cases hlt : i < n
   ·have hltz : (i : Int) < (n : Int) := by omega
    have h0z : (0 : Int) ≤ (i : Int) := by omega
    have HLT := Aside0.mk hlt
    have hi1 : IntKind.i64.wrap ((i : Int) + 1) = ((i + 1 : Nat) : Int) := by rw [IntWalk.i64_in _ (by have := HN.out; omega)]; rfl
    have HI1 := Aside0.mk hi1
    clear hlt hi hg
    go_wp2_with fail
    refine (copy_own HO.out HCAP.out HP.out HN.out).mono ?_
    rintro e w10 ⟨g2, cap2, b2, cp2, rfl, hcap2, hO2⟩
    have HCAP2 := Aside0.mk hcap2
    have HO2 := Aside0.mk hO2
    clear hcap2 hO2
    go_wp2_with fail
    have hpc := putO (w0 := wr) i HLT.out cap2 A2 c2 right HO2.out HN.out (by rw [HRI.out]; exact Nat.le_refl _) (fun W hK hB => Kd.C_below HR2.out (Below.trans HO.out.below (hB.mono HO.out.below.size)))
    rw [HRI.out] at hpc
    refine hpc.mono ?_
    clear hpc
    rintro e w11 ⟨rfl, hO3, hK3⟩
    have HO3 := Aside0.mk hO3
    clear hO3 hK3 HO2
    go_wp2_with fail
    refine (impl_sign.calls D sg _ HSG.out).mono ?_
    rintro e w12 ⟨rfl, hd12⟩
    have n0_ := Aside0.mk (HO3.out.step hd12.below)
    clear HO3 hd12
    have HO3 := n0_
    clear n0_
    go_wp2_with fail
    refine (det_own HO3.out HCAP2.out HP.out HN.out).mono ?_
    rintro e w13 ⟨rfl, hb13⟩
    have hB13 : Below wr.heap.size wr w13 := Below.trans HO3.out.below (hb13.mono HO3.out.below.size)
    have n0_ := Aside0.mk (HO.out.step hB13)
    have n1_ := Aside0.mk (Kd.R_below HRO.out hB13)
    clear HO HRO HO3 hb13 hB13
    have HO := n0_
    have HRO := n1_
    clear n0_ n1_
    have hat := Kd.R_celln 0 HRO.out (i : Int) (by omega) hltz
    rw [Int.toNat_natCast] at hat
    have hcg := hat.1
    have hfg := hat.2
    clear hat
    have hput := Kd.R_putg HRO.out (i : Int) (sl n (cM cl n) right sg i)
    rw [Int.toNat_natCast, slL_next _ _ _ _ _ HLT.out] at hput
    have HPUT := Aside0.mk hput.1
    have HFAR := Aside0.mk (HO.out.far (p := ⟨go, i, none⟩) HSEP.out.1 HSEP.out.2.1 HSEP.out.2.2 (.int .i64 (sl n (cM cl n) right sg i)))
    clear hput
    go_wp2
    go_roundg (n - (i + 1))
    case measure => have := HG.out; have := HLT.out; omega
    case rel => exact ⟨i + 1, by have := HLT.out; omega, by omega, by first | rfl | (rw [HI1.out]) | (simp [HI1.out]), HFAR, HPUT⟩
   ·have hltz : ¬ (i : Int) < (n : Int) := by omega
    obtain rfl : i = n := by omega
    go_wp2_with fail
    refine (impl_size.calls D sz _ HSZ.out).mono ?_
    rintro e w14 ⟨rfl, hb⟩
    have n0_ := Aside0.mk (HO.out.step hb)
    have n1_ := Aside0.mk (Kd.R_below HRO.out hb)
    clear HO HRO hb
    go_wp2
    refine bodyPost_ret (results_list (rs := [.tmp 6, .tmp 7, .tmp 8]) rfl (by simp) (.tmp (.tmp (.tmp .nil)))) rfl ?_
    refine ⟨.slice (some ⟨go, 0, none⟩) i co, ?_, ?_, n0_.out.below⟩
    ·rfl
    ·exact n1_.out
end Go.Proofs.Ythdoilfjcgickaa.Hd
end
section
namespace Go.Proofs.Ythdoilfjcgickaa.Pr
open Go.RowKit Go.Proofs.YthdoilfjcgickaaW.PrintWords Go.Proofs.YthdoilfjcgickaaW.PrintLast Go.Proofs.YthdoilfjcgickaaW.PrintMore Go.Proofs.Ythdoilfjcgickaa.La Go.Proofs.Ythdoilfjcgickaa.Ma Go.Proofs.Ythdoilfjcgickaa.Hm Go.Proofs.Ythdoilfjcgickaa.Dt Go.Proofs.Ythdoilfjcgickaa.Hd
def colF (k : Nat) (M : List (List Int)) (Q : List Int) (s : Int) (i : Nat) : Option (List Int) := (impl_has.f s (i : Int)).bind fun t => impl_Problem_column.f k M Q (i : Int) t
def colOK (k : Nat) (M : List (List Int)) (Q : List Int) (s : Int) (n : Nat) : Bool := (List.range n).all fun i => match colF k M Q s i with
 | some c => c.length == n
 | none => false
def colL (k : Nat) (M : List (List Int)) (Q : List Int) (s : Int) (i : Nat) : List Int := (colF k M Q s i).getD []
def impl_Problem_solve.f (k : Nat) (l0_0 : List (List Int)) (l0_1 : List Int) (a1 : Int) (l2 : List Int) : Option (List Int × Int × Bool) :=
 if 0 < l0_1.length ∧ l0_1.length ≤ 1000 ∧ l2.length = l0_1.length ∧ colOK k l0_0 l0_1 a1 l0_1.length = true then
  (impl_sign.f (dO l0_1.length (cM (colL k l0_0 l0_1 a1) l0_1.length))).bind fun sg => (impl_size.f (dO l0_1.length (cM (colL k l0_0 l0_1 a1) l0_1.length))).bind fun sz =>
   some (if dO l0_1.length (cM (colL k l0_0 l0_1 a1) l0_1.length) = 0 then ([], 0, false) else (slL l0_1.length (cM (colL k l0_0 l0_1 a1) l0_1.length) l2 sg l0_1.length, sz, true))
 else none
theorem colF_mono (k : Nat) (M : List (List Int)) (Q : List Int) (s : Int) (i : Nat) : LeO (colF k M Q s i) (colF (k + 1) M Q s i) := by
 unfold colF
 exact LeO.bind (LeO.refl _) (fun t => impl_Problem_column.mono _ _ _ _ _)
theorem colOK_mono {k : Nat} {M : List (List Int)} {Q : List Int} {s : Int} {n : Nat} (h : colOK k M Q s n = true) : colOK (k + 1) M Q s n = true ∧ ∀ i, i < n → colL (k + 1) M Q s i = colL k M Q s i := by
 unfold colOK at h ⊢
 rw [List.all_eq_true] at h ⊢
 have key : ∀ i, i < n → colF (k + 1) M Q s i = colF k M Q s i ∧ ∃ c, colF k M Q s i = some c := by
  intro i hi
  have := h i (List.mem_range.2 hi)
  cases hc : colF k M Q s i with
  | none => rw [hc] at this; cases this
  | some c => exact ⟨colF_mono k M Q s i c hc, c, rfl⟩
 refine ⟨fun i hi => ?_, fun i hi => ?_⟩
 ·rw [(key i (List.mem_range.1 hi)).1]; exact h i hi
 ·unfold colL; rw [(key i hi).1]
theorem impl_Problem_solve.mono : ∀ a0 a1 a2 a3 k, LeO (impl_Problem_solve.f k a0 a1 a2 a3) (impl_Problem_solve.f (k + 1) a0 a1 a2 a3) := by
 intro a0 a1 a2 a3 k r h
 unfold impl_Problem_solve.f at h ⊢
 split at h
 case isFalse => cases h
 rename_i hc
 obtain ⟨h1, h2, h3, h4⟩ := hc
 obtain ⟨h5, hl⟩ := colOK_mono h4
 have hcm : cM (colL (k + 1) a0 a1 a2) a1.length = cM (colL k a0 a1 a2) a1.length := by
  funext a d
  unfold cM
  by_cases z : d < a1.length
  ·rw [if_pos z, if_pos z, hl d z]
  ·rw [if_neg z, if_neg z]
 rw [if_pos ⟨h1, h2, h3, h5⟩, hcm]
 exact h
theorem impl_Problem_solve.calls (k : Nat) (A0_0 : Option Addr) (c0_0 : Nat) (l0_0 : List (List Int)) (A0_1 : Option Addr) (c0_1 : Nat) (l0_1 : List Int) (a1 : Int) (A2 : Option Addr) (c2 : Nat) (l2 : List Int) (r1 : List Int) (r2 : Int) (r3 : Bool) (w : World) (hr0_0 : Kd.C (Kd.slice 2 (Kd.int .i64)) w A0_0 l0_0.length l0_0) (hc0_0 : l0_0.length ≤ c0_0) (hr0_1 : Kd.C (Kd.int .i64) w A0_1 l0_1.length l0_1) (hc0_1 : l0_1.length ≤ c0_1) (hr2 : Kd.C (Kd.int .i64) w A2 l2.length l2) (hc2 : l2.length ≤ c2) (h : impl_Problem_solve.f k l0_0 l0_1 a1 l2 = some (r1, r2, r3)) :
  Calls Try.prog 107 #[.agg #[.slice A0_0 l0_0.length c0_0, .slice A0_1 l0_1.length c0_1], .int .i64 a1, .slice A2 l2.length c2] w fun e w' => ∃ v0_ : Value, e = .returned (.tuple #[v0_, .int .i64 r2, .bool r3]) ∧ Kd.R (Kd.int .i64) 2 w' w.heap.size (fun _ => True) v0_ r1 ∧ Below w.heap.size w w' := by
 unfold impl_Problem_solve.f at h
 split at h
 case isFalse => cases h
 rename_i hc
 obtain ⟨h1, h2, h3, h4⟩ := hc
 obtain ⟨sg, hsg, h⟩ := Option.bind_eq_some_iff.mp h
 obtain ⟨sz, hsz, h⟩ := Option.bind_eq_some_iff.mp h
 have h := Option.some.inj h
 have hcl : ∀ i, i < l0_1.length → ∃ t, impl_has.f a1 (i : Int) = some t ∧ impl_Problem_column.f k l0_0 l0_1 (i : Int) t = some (colL k l0_0 l0_1 a1 i) ∧ (colL k l0_0 l0_1 a1 i).length = l0_1.length := by
  intro i hi
  unfold colOK at h4
  rw [List.all_eq_true] at h4
  have := h4 i (List.mem_range.2 hi)
  unfold colL
  cases hcf : colF k l0_0 l0_1 a1 i with
  | none => rw [hcf] at this; cases this
  | some c =>
   rw [hcf] at this
   obtain ⟨t, ht1, ht2⟩ := Option.bind_eq_some_iff.mp hcf
   exact ⟨t, ht1, ht2, by simpa using this⟩
 have hs := solve_calls k l0_1.length a1 (dO l0_1.length (cM (colL k l0_0 l0_1 a1) l0_1.length)) sg sz (colL k l0_0 l0_1 a1) A0_0 c0_0 l0_0 A0_1 c0_1 l0_1 A2 c2 l2 w hr0_0 hc0_0 hr0_1 hc0_1 hr2 hc2 rfl h3 h1 h2 hcl rfl hsg hsz
 by_cases d : dO l0_1.length (cM (colL k l0_0 l0_1 a1) l0_1.length) = 0
 ·rw [if_pos d] at h
  simp only [if_pos d] at hs
  cases h
  exact hs
 ·rw [if_neg d] at h
  simp only [if_neg d] at hs
  cases h
  exact hs
end Go.Proofs.Ythdoilfjcgickaa.Pr
end
section
namespace Go.Proofs.Ythdoilfjcgickaa.Pr
open Go.RowKit Go.Proofs.YthdoilfjcgickaaW.PrintWords Go.Proofs.YthdoilfjcgickaaW.PrintLast Go.Proofs.YthdoilfjcgickaaW.PrintMore
attribute [local go_sem] max2_int min2_int max_two min_two max_three min_three max_four min_four
def impl_Problem_point.f (k : Nat) (l0_0 : List (List Int)) (l0_1 : List Int) (a1 : Int) : Option (List Int × Int × Bool) := (impl_Problem_solve.f k l0_0 l0_1 a1 l0_1).bind fun bt360 => (some (bt360.1, bt360.2.1, bt360.2.2))
theorem impl_Problem_point.mono : ∀ a0 a1 a2 k, LeO (impl_Problem_point.f k a0 a1 a2) (impl_Problem_point.f (k + 1) a0 a1 a2) := by
 intro a0 a1 a2 k
 unfold impl_Problem_point.f
 repeat' first
   | (with_reducible exact impl_Problem_solve.mono _ _ _ _ _)
   | (with_reducible exact LeO.refl _)
   | (with_reducible exact LeO.none _)
   | (with_reducible refine LeO.ite ?_ ?_)
   | (with_reducible refine LeO.bind ?_ (fun _ => ?_))
   | exact impl_Problem_solve.mono _ _ _ _ _
   | exact LeO.none _
   | refine LeO.ite ?_ ?_
   | refine LeO.bind ?_ (fun _ => ?_)
theorem impl_Problem_point.calls (k : Nat) (A0_0 : Option Addr) (c0_0 : Nat) (l0_0 : List (List Int)) (A0_1 : Option Addr) (c0_1 : Nat) (l0_1 : List Int) (a1 : Int) (r1 : List Int) (r2 : Int) (r3 : Bool) (w : World) (hr0_0 : Kd.C (Kd.slice 2 (Kd.int .i64)) w A0_0 l0_0.length l0_0) (hc0_0 : l0_0.length ≤ c0_0) (hr0_1 : Kd.C (Kd.int .i64) w A0_1 l0_1.length l0_1) (hc0_1 : l0_1.length ≤ c0_1) (h : impl_Problem_point.f k l0_0 l0_1 a1 = some (r1, r2, r3)) :
  Calls Try.prog 71 #[.agg #[.slice A0_0 l0_0.length c0_0, .slice A0_1 l0_1.length c0_1], .int .i64 a1] w fun e w' => ∃ v0_ : Value, e = .returned (.tuple #[v0_, .int .i64 r2, .bool r3]) ∧ Kd.R (Kd.int .i64) 2 w' w.heap.size (fun _ => True) v0_ r1 ∧ Below w.heap.size w w' := by
 have hu29 := Try.underlying29
 have HR0_0 := Aside0.mk hr0_0
 have HC0_0 := Aside0.mk hc0_0
 clear hr0_0 hc0_0
 have HR0_1 := Aside0.mk hr0_1
 have HC0_1 := Aside0.mk hc0_1
 clear hr0_1 hc0_1
 have HB := Aside0.mk (Below.refl w.heap.size w)
 have H : ((impl_Problem_solve.f k l0_0 l0_1 a1 l0_1).bind fun bt360 => (some (bt360.1, bt360.2.1, bt360.2.2))) = some (r1, r2, r3) := h
 clear h
 replace H := Option.bind_eq_some_iff.mp H
 obtain ⟨⟨t360, t363, t364⟩, A30, H⟩ := H
 replace H : (some (t360, t363, t364)) = some (r1, r2, r3) := H
 have A3 := Aside0.mk A30
 clear A30
 simp only [Option.some.injEq, Prod.mk.injEq] at H
 obtain ⟨rfl, rfl, rfl⟩ := H
 go_enter Try.func71, Try.ntmps71
 go_wp2_with (first | ((with_reducible refine gate_dst (N := 2) rfl ?_); refine box_event ?hg (N := 2) ?hd (cs := #[.slice A0_0 l0_0.length c0_0, .slice A0_1 l0_1.length c0_1]) (t := 29) ?hr ?_; (case hd => rfl); (case hg => rfl); (case hr => first | (go_simp; done) | (go_simp; rfl)); intro gb359 hg w4 hbox hb; have n0_ := Aside0.mk (bs_ hb); have n1_ := Aside0.mk (hbox); have n2_ := Aside0.mk ((by rw [hg]; exact bz_ : w.heap.size ≤ gb359)); have n3_ := Aside0.mk ((by rw [hg]; exact bz_ : w.heap.size ≤ gb359)); clear HB; have HB := n0_; have BK359 := n1_; have GW359 := n2_; have GE359 := n3_; clear n0_ n1_ n2_ n3_; clear hb hbox hg; have hcz5_0 : w4.cell? ⟨gb359, 0, none⟩ = some (.slice A0_0 l0_0.length c0_0) := (blk_cell BK359.out 0).trans rfl; have hcz5_1 : w4.cell? ⟨gb359, 1, none⟩ = some (.slice A0_1 l0_1.length c0_1) := (blk_cell BK359.out 1).trans rfl; have hfz5_0 := blk_frozen BK359.out 0; have hfz5_1 := blk_frozen BK359.out 1) | ((with_reducible refine gate_callee (f := 107) rfl ?_); refine goesL_ (some 11) rfl rfl Try.func107 (by kernel_rfl) rfl #[.agg #[.slice A0_0 l0_0.length c0_0, .slice A0_1 l0_1.length c0_1], .int .i64 a1, .slice A0_1 l0_1.length c0_1] rfl (by (try simp only [List.map_toArray, List.map_cons, List.map_nil]); first | done | rfl | (simp only [List.length_drop, List.length_take]; rfl)) ?_; (with_reducible refine (impl_Problem_solve.calls k _ _ l0_0 _ _ l0_1 a1 _ _ l0_1 t360 t363 t364 _ ?side1 ?side2 ?side3 ?side4 ?side5 ?side6 A3.out).mono ?_); (case side1 => exact cb_ HR0_0.out HB.out); (case side2 => exact HC0_0.out); (case side3 => exact cb_ HR0_1.out HB.out); (case side4 => exact HC0_1.out); (case side5 => exact cb_ HR0_1.out HB.out); (case side6 => exact HC0_1.out); rintro e w6 ⟨v361, rfl, ho0, hb⟩; refine ⟨_, rfl, ?_⟩; have n0_ := Aside0.mk (Kd.R_lower ho0 bz_); have n1_ := Aside0.mk (bb_ BK359.out hb); have n2_ := Aside0.mk (bs_ hb); clear BK359; clear HB; have HO362 := n0_; have BK359 := n1_; have HB := n2_; clear n0_ n1_ n2_; (try clear hb); (try clear hb2); (try clear hk); (try clear hi); (try clear ho0)))
 go_ret3
 exact ⟨_, by first | rfl | (simp [errW_none, errW_some] <;> rfl) | (simp [*, errW_none, errW_some] <;> rfl), ro_ HO362.out, hb_⟩
end Go.Proofs.Ythdoilfjcgickaa.Pr
end
section
namespace Go.Proofs.Ythdoilfjcgickaa.Hput
open Go.RowKit Go.Proofs.YthdoilfjcgickaaW.PrintWords Go.Proofs.YthdoilfjcgickaaW.PrintLast Go.Proofs.YthdoilfjcgickaaW.PrintMore Go.Proofs.Ythdoilfjcgickaa.Pr Go.Proofs.Ythdoilfjcgickaa.La Go.Proofs.Ythdoilfjcgickaa.Ma Go.Proofs.Ythdoilfjcgickaa.Hm
section
variable {w0 : World} {ok : Nat → Prop}
theorem put_row {g cap : Nat} {w : World} {l : List (List Int)} (hB : Below w0.heap.size w0 w) (h : SS w0 w ok (.slice (some ⟨g, 0, none⟩) l.length cap) l) (j : Nat) (hj : j < l.length) (i : Nat) (hi : i < l[j].length) :
  ∃ (b cj : Nat), w.cell? ⟨g, j, none⟩ = some (.slice (some ⟨b, 0, none⟩) l[j].length cj) ∧ w.cell? ⟨b, i, none⟩ = some (.int .i64 (l[j].getD i 0)) ∧ w.frozen? ⟨b, i, none⟩ = false ∧
   ∀ x : Int, SS w0 (w.setCell ⟨b, i, none⟩ (.int .i64 x)) ok (.slice (some ⟨g, 0, none⟩) l.length cap) (l.set j (l[j].set i x)) ∧ Below w0.heap.size w0 (w.setCell ⟨b, i, none⟩ (.int .i64 x)) ∧ Kept w (w.setCell ⟨b, i, none⟩ (.int .i64 x)) ok := by
 obtain ⟨oki, c, hcl, hM, hcc, hoki, hback⟩ := Kd.S_borrow h [] (j : Int) (by omega) (by omega)
 rw [Int.toNat_natCast, List.getD_eq_getElem?_getD, List.getElem?_eq_getElem hj] at hM
 obtain ⟨u, rfl, hR⟩ := hM
 have hR2 : Kd.R (Kd.int .i64) 2 w w0.heap.size oki u l[j] := hR
 obtain ⟨b, cj, rfl, hb1, hb2, cells, hbc⟩ := Kd.R_form hR2 (by omega)
 have e : (⟨g, 0, none⟩ : Addr).add ((j : Int).toNat * (Kd.slice 2 (Kd.int .i64)).sz + 0) = ⟨g, j, none⟩ := by
  show (⟨g, 0, none⟩ : Addr).add ((j : Int).toNat * 1 + 0) = ⟨g, j, none⟩
  rw [Int.toNat_natCast, Nat.mul_one, Nat.add_zero]
  unfold Addr.add; split <;> simp_all
 have hcellg : w.cell? ⟨g, j, none⟩ = some (.slice (some ⟨b, 0, none⟩) l[j].length cj) := by
  have := hcc 0 _ rfl
  rwa [e] at this
 have hat := Kd.R_celln 0 hR2 (i : Int) (by omega) (by omega)
 rw [Int.toNat_natCast] at hat
 have hown : oki b := hR2.1 b (by simp [Value.ownBlock])
 refine ⟨b, cj, hcellg, by simpa [rdOf] using hat.1, hat.2, fun x => ?_⟩
 have hput := Kd.R_putg hR2 (i : Int) x
 rw [Int.toNat_natCast] at hput
 have hS := hback hput.2 (fun k hk => by injection hk with hk; subst hk; exact hown) (x' := l[j].set i x) ⟨_, rfl, (show Kd.R (Kd.int .i64) 2 _ _ _ _ _ from hput.1)⟩
 rw [Int.toNat_natCast] at hS
 refine ⟨hS, hB.setCell hb1 _, ?_⟩
 exact (Kept.refl w ok).setCell (.inl (hoki b hown).1) _
end
end Go.Proofs.Ythdoilfjcgickaa.Hput
end
section
namespace Go.Proofs.Ythdoilfjcgickaa.Pv
open Go.RowKit Go.Proofs.YthdoilfjcgickaaW.PrintWords Go.Proofs.YthdoilfjcgickaaW.PrintLast Go.Proofs.YthdoilfjcgickaaW.PrintMore Go.Proofs.Ythdoilfjcgickaa.Pr Go.Proofs.Ythdoilfjcgickaa.La Go.Proofs.Ythdoilfjcgickaa.Ma Go.Proofs.Ythdoilfjcgickaa.Hm Go.Proofs.Ythdoilfjcgickaa.Lw Go.Proofs.Ythdoilfjcgickaa.Hput Go.Proofs.Ythdoilfjcgickaa.Dt
open Go.Proofs.Ythdoilfjcgickaa.Hd (en lt_of_cell)
def pE (l : List (List Int)) (cs : Nat → List Int) (k i r c : Nat) : Int := if c < k ∨ c = k ∧ r < i then wrap64 (-(cs c).getD r 0) else en l r c
def pR (l : List (List Int)) (cs : Nat → List Int) (n k i : Nat) : List (List Int) := (List.range n).map fun r => (List.range n).map (pE l cs k i r)
theorem pR_len (l : List (List Int)) (cs : Nat → List Int) (n k i : Nat) : (pR l cs n k i).length = n := by simp [pR]
theorem pR_row (l : List (List Int)) (cs : Nat → List Int) (n k i r : Nat) (h : r < (pR l cs n k i).length) : (pR l cs n k i)[r] = (List.range n).map (pE l cs k i r) := by simp [pR]
theorem pR_set (l : List (List Int)) (cs : Nat → List Int) (n k i : Nat) (hi : i < n) (hk : k < n) : (pR l cs n k i).set i (((List.range n).map (pE l cs k i i)).set k (wrap64 (-(cs k).getD i 0))) = pR l cs n k (i + 1) := by
 apply List.ext_getElem
 ·simp [pR]
 ·intro r h1 h2
  have hr : r < n := by simpa [pR] using h2
  rw [List.getElem_set]
  simp only [pR, List.getElem_map, List.getElem_range]
  by_cases e : i = r
  ·subst e
   rw [if_pos rfl]
   apply List.ext_getElem
   ·simp
   ·intro c h3 h4
    have hc : c < n := by simpa using h4
    rw [List.getElem_set]
    simp only [List.getElem_map, List.getElem_range, pE]
    by_cases q : k = c
    ·subst q; rw [if_pos rfl, if_pos (by omega)]
    ·rw [if_neg q]
     by_cases z : c < k
     ·rw [if_pos (.inl z), if_pos (.inl z)]
     ·rw [if_neg (by omega), if_neg (by omega)]
  ·rw [if_neg e]
   refine List.map_congr_left (fun c _ => ?_)
   unfold pE
   by_cases z : c < k ∨ c = k ∧ r < i
   ·rw [if_pos z, if_pos (by omega)]
   ·rw [if_neg z, if_neg (by omega)]
theorem pR_col (l : List (List Int)) (cs : Nat → List Int) (n k : Nat) : pR l cs n k n = pR l cs n (k + 1) 0 := by
 unfold pR
 refine List.map_congr_left (fun r hr => List.map_congr_left (fun c _ => ?_))
 have hr := List.mem_range.1 hr
 unfold pE
 by_cases z : c < k ∨ c = k ∧ r < n
 ·rw [if_pos z, if_pos (by omega)]
 ·rw [if_neg z, if_neg (by omega)]
theorem pR_zero (l : List (List Int)) (cs : Nat → List Int) (n : Nat) (hl : l.length = n) (hr : ∀ x ∈ l, x.length = n) : pR l cs n 0 0 = l := by
 apply List.ext_getElem
 ·simp [pR, hl]
 ·intro r h1 h2
  have hrow := hr l[r] (List.getElem_mem h2)
  simp only [pR, List.getElem_map, List.getElem_range]
  apply List.ext_getElem
  ·simp [hrow]
  ·intro c h3 h4
   simp only [List.getElem_map, List.getElem_range, pE]
   rw [if_neg (by omega)]
   unfold en
   simp [h2, h4]
theorem pivot_none (k : Nat) (s : Int) (side : List Int) (den : Int) (A0 : Option Addr) (c0 : Nat) (M : List (List Int)) (A1 : Option Addr) (c1 : Nat) (Q : List Int) (w : World) (hr0 : Kd.C (Kd.slice 2 (Kd.int .i64)) w A0 M.length M) (hc0 : M.length ≤ c0) (hr1 : Kd.C (Kd.int .i64) w A1 Q.length Q) (hc1 : Q.length ≤ c1) (hpt : impl_Problem_point.f k M Q s = some (side, den, false)) :
  Calls Try.prog 101 #[.agg #[.slice A0 M.length c0, .slice A1 Q.length c1], .int .i64 s] w fun e w' => e = .returned (.tuple #[.agg #[.int .i64 0, .slice none 0 0, .slice none 0 0], .bool false]) ∧ Below w.heap.size w w' := by
 have HR0 := Aside0.mk hr0
 have HC0 := Aside0.mk hc0
 have HR1 := Aside0.mk hr1
 have HC1 := Aside0.mk hc1
 have HPT := Aside0.mk hpt
 have HB := Aside0.mk (Below.refl w.heap.size w)
 clear hr0 hc0 hr1 hc1 hpt
 go_enter Try.func101, Try.ntmps101
 go_wp2_with (first | ((with_reducible refine gate_dst (N := 2) rfl ?_); refine box_event ?hg (N := 2) ?hd (cs := #[.slice A0 M.length c0, .slice A1 Q.length c1]) (t := 29) ?hr ?_; (case hd => rfl); (case hg => rfl); (case hr => first | (go_simp; done) | (go_simp; rfl)); intro gb hg w6 hbox hb; have n0_ := Aside0.mk (below_step HB.out hb); have n1_ := Aside0.mk hbox; clear HB; have HB := n0_; have BK := n1_; clear n0_ n1_; clear hb hbox hg) | ((with_reducible refine gate_dst (N := 4) rfl ?_); refine box_event ?hg (N := 4) ?hd (cs := #[.int .i64 0, .slice none 0 0, .slice none 0 0]) (t := 75) ?hr ?_; (case hd => rfl); (case hg => rfl); (case hr => first | (go_simp; done) | (go_simp; rfl)); intro g4 hg w7 hbox hb; have n0_ := Aside0.mk (below_step HB.out hb); have n1_ := Aside0.mk (blk_below BK.out hb); have n2_ := Aside0.mk hbox; have G4 : Aside0 (w.heap.size ≤ g4) := ⟨by have := HB.out.size; omega⟩; clear HB BK; have HB := n0_; have BK := n1_; have B4 := n2_; clear n0_ n1_ n2_; clear hb hbox hg; have hcz0 : w7.cell? ⟨gb, 0, none⟩ = some (.slice A0 M.length c0) := (blk_cell BK.out 0).trans rfl; have hcz1 : w7.cell? ⟨gb, 1, none⟩ = some (.slice A1 Q.length c1) := (blk_cell BK.out 1).trans rfl))
 refine (impl_Problem_point.calls k A0 c0 M A1 c1 Q s side den false _ (Kd.C_below HR0.out HB.out) HC0.out (Kd.C_below HR1.out HB.out) HC1.out HPT.out).mono ?_
 rintro e w8 ⟨v, rfl, hR, hb⟩
 have n0_ := Aside0.mk (below_step HB.out hb)
 have n1_ := Aside0.mk (blk_below B4.out hb)
 clear HB B4 BK hcz0 hcz1 hb hR
 have HB := n0_
 have B4 := n1_
 clear n0_ n1_
 have hs0 : w8.cell? ⟨g4, 0, none⟩ = some (.int .i64 0) := (blk_cell B4.out 0).trans rfl
 have hsf0 := blk_frozen B4.out 0
 have hs1 : w8.cell? ⟨g4, 1, none⟩ = some (.slice none 0 0) := (blk_cell B4.out 1).trans rfl
 have hsf1 := blk_frozen B4.out 1
 have hs2 : w8.cell? ⟨g4, 2, none⟩ = some (.slice none 0 0) := (blk_cell B4.out 2).trans rfl
 have hsf2 := blk_frozen B4.out 2
 go_wp2_with (first | ((with_reducible refine gate_store (t := 75) (p := 4) rfl ?_); refine store_event (t := 75) (p := 4) (v := ?vo) (w1 := (((w8.setCell ⟨g4, 0, none⟩ (.int .i64 0)).setCell ⟨g4, 1, none⟩ (.slice none 0 0)).setCell ⟨g4, 2, none⟩ (.slice none 0 0))) ?hg ?ho ?hn ?hr ?_; (case ho => rfl); (case hg => rfl); (case hn => rfl); (case hr => first | (go_simp; done) | (go_simp; rfl)); intro w9 hw; have nb := Aside0.mk (show w9.heap[g4]? = some (.cells #[.int .i64 0, .slice none 0 0, .slice none 0 0] 75 (0, 0)) from (by rw [hw]; exact (blk_put (blk_put (blk_put B4.out 0 _ rfl) 1 _ rfl) 2 _ rfl))); have nB := Aside0.mk (show Below w.heap.size w w9 from (by rw [hw]; exact below_set (below_set (below_set HB.out G4.out) G4.out) G4.out)); clear hw HB B4; have HB := nB; have B4 := nb; clear nB nb))
 refine bodyPost_ret (results_list (rs := [.cell 4 75, .tmp 5]) rfl (by simp) (.cell g4 75 #[.int .i64 0, .slice none 0 0, .slice none 0 0] (0, 0) _ rfl B4.out Try.underlying75 rfl (by kernel_rfl) (.tmp .nil))) rfl ?_
 exact ⟨rfl, HB.out⟩
theorem pivot_calls (k n : Nat) (s : Int) (side : List Int) (den : Int) (ck cs : Nat → List Int) (d2 : Nat → Int) (o2 : Nat → Bool) (k2 : Nat) (A0 : Option Addr) (c0 : Nat) (M : List (List Int)) (A1 : Option Addr) (c1 : Nat) (Q : List Int) (w : World) (hr0 : Kd.C (Kd.slice 2 (Kd.int .i64)) w A0 M.length M) (hc0 : M.length ≤ c0) (hr1 : Kd.C (Kd.int .i64) w A1 Q.length Q) (hc1 : Q.length ≤ c1) (hM : M.length = n) (hMr : ∀ x ∈ M, x.length = n) (hQ : Q.length = n) (hp : 0 < n) (hn : n ≤ 1000) (hpt : impl_Problem_point.f k M Q s = some (side, den, true)) (hsl : side.length = n) (hcp : impl_copyRows.f k2 M = some M)
  (hcol : ∀ j, j < n → ∃ t, impl_has.f s (j : Int) = some t ∧ impl_Problem_column.f k M Q (j : Int) (!t) = some (ck j) ∧ impl_Problem_solve.f k M Q s (ck j) = some (cs j, d2 j, o2 j) ∧ (cs j).length = n) :
  Calls Try.prog 101 #[.agg #[.slice A0 M.length c0, .slice A1 Q.length c1], .int .i64 s] w fun e w' => ∃ v0_ v1_ : Value, e = .returned (.tuple #[.agg #[.int .i64 den, v0_, v1_], .bool true]) ∧ Kd.S (Kd.slice 2 (Kd.int .i64)) 23 w' w.heap.size (fun k_ => some k_ ≠ (v1_ : Value).ownBlock) v0_ (pR M cs n n 0) ∧ Kd.R (Kd.int .i64) 2 w' w.heap.size (fun _ => True) v1_ side ∧ Below w.heap.size w w' := by
 have HR0 := Aside0.mk hr0
 have HC0 := Aside0.mk hc0
 have HR1 := Aside0.mk hr1
 have HC1 := Aside0.mk hc1
 have HM0 := Aside0.mk hM
 have HMR := Aside0.mk hMr
 have HQ := Aside0.mk hQ
 have HP := Aside0.mk hp
 have HN := Aside0.mk hn
 have HPT := Aside0.mk hpt
 have HSL := Aside0.mk hsl
 have HCP := Aside0.mk hcp
 have HCOL := Aside0.mk hcol
 have HB := Aside0.mk (Below.refl w.heap.size w)
 have hqz : (Q.length : Int) = (n : Int) := by omega
 clear hr0 hc0 hr1 hc1 hpt hM hMr hQ hp hn hsl hcp hcol
 go_enter Try.func101, Try.ntmps101
 go_wp2_with (first | ((with_reducible refine gate_dst (N := 2) rfl ?_); refine box_event ?hg (N := 2) ?hd (cs := #[.slice A0 M.length c0, .slice A1 Q.length c1]) (t := 29) ?hr ?_; (case hd => rfl); (case hg => rfl); (case hr => first | (go_simp; done) | (go_simp; rfl)); intro gb hg w6 hbox hb; have n0_ := Aside0.mk (below_step HB.out hb); have n1_ := Aside0.mk hbox; clear HB; have HB := n0_; have BK := n1_; clear n0_ n1_; clear hb hbox hg) | ((with_reducible refine gate_dst (N := 4) rfl ?_); refine box_event ?hg (N := 4) ?hd (cs := #[.int .i64 0, .slice none 0 0, .slice none 0 0]) (t := 75) ?hr ?_; (case hd => rfl); (case hg => rfl); (case hr => first | (go_simp; done) | (go_simp; rfl)); intro g4 hg w7 hbox hb; have n0_ := Aside0.mk (below_step HB.out hb); have n1_ := Aside0.mk (blk_below BK.out hb); have n2_ := Aside0.mk hbox; have G4 : Aside0 (w.heap.size ≤ g4) := ⟨by have := HB.out.size; omega⟩; clear HB BK; have HB := n0_; have BK := n1_; have B4 := n2_; clear n0_ n1_ n2_; clear hb hbox hg; have hcz0 : w7.cell? ⟨gb, 0, none⟩ = some (.slice A0 M.length c0) := (blk_cell BK.out 0).trans rfl; have hcz1 : w7.cell? ⟨gb, 1, none⟩ = some (.slice A1 Q.length c1) := (blk_cell BK.out 1).trans rfl))
 have G4S := Aside0.mk (blk_lt B4.out)
 refine (impl_Problem_point.calls k A0 c0 M A1 c1 Q s side den true _ (Kd.C_below HR0.out HB.out) HC0.out (Kd.C_below HR1.out HB.out) HC1.out HPT.out).mono ?_
 rintro e w8 ⟨v, rfl, hR, hb⟩
 obtain ⟨As, cS, rfl⟩ := Kd.R_slice hR
 have HS := Aside0.mk (UR.of hR HB.out.size)
 generalize hslo : w7.heap.size = slo at HS G4S
 have n0_ := Aside0.mk (below_step HB.out hb)
 have n1_ := Aside0.mk (blk_below B4.out hb)
 have n2_ := Aside0.mk (blk_below BK.out hb)
 have G4L := Aside0.mk (blk_lt n1_.out)
 have GBL := Aside0.mk (blk_lt n2_.out)
 clear HB B4 BK hcz0 hcz1 hb hR
 have HB := n0_
 have B4 := n1_
 have BK := n2_
 clear n0_ n1_ n2_
 rw [HSL.out] at HS ⊢
 have hcz0 : w8.cell? ⟨gb, 0, none⟩ = some (.slice A0 M.length c0) := (blk_cell BK.out 0).trans rfl
 have hcz1 : w8.cell? ⟨gb, 1, none⟩ = some (.slice A1 Q.length c1) := (blk_cell BK.out 1).trans rfl
 go_wp2_with fail
 refine (impl_copyRows.calls k2 A0 c0 M M w8 (Kd.C_below HR0.out HB.out) HC0.out HCP.out).mono ?_
 rintro e w9 ⟨v9, rfl, hS9, hb⟩
 obtain ⟨g, cap, rfl, hg1, hg2, cells9, hgc9⟩ := Kd.S_form hS9 (by rw [HM0.out]; exact HP.out)
 have HM := Aside0.mk (US.of hS9 HB.out.size)
 rw [HM0.out] at HM
 rw [HM0.out]
 have HLH := Aside0.mk hb.size
 have n0_ := Aside0.mk (below_step HB.out hb)
 have n1_ := Aside0.mk (blk_below B4.out hb)
 have n2_ := Aside0.mk (blk_below BK.out hb)
 have n3_ := Aside0.mk (HS.out.mvB (Frm.below hb))
 clear HB B4 BK HS hcz0 hcz1 hb hS9 hg1 hg2 hgc9
 have HB := n0_
 have B4 := n1_
 have BK := n2_
 have HS := n3_
 clear n0_ n1_ n2_ n3_
 have HHI := Aside0.mk (Nat.le_refl w9.heap.size)
 generalize hlo : w8.heap.size = lo at *
 generalize hhi : w9.heap.size = hi at HM HLH HHI
 have HHI2 : Aside0 (hi = w9.heap.size) := ⟨hhi.symm⟩
 clear hlo hhi HHI
 go_wp2_with (first | ((with_reducible refine gate_dst (N := 9) rfl ?_); refine box_event ?hg (N := 9) ?hd (cs := #[.int .i64 0, .slice none 0 0, .slice none 0 0]) (t := 75) ?hr ?_; (case hd => rfl); (case hg => rfl); (case hr => first | (go_simp; done) | (go_simp; rfl)); intro g9 hg w10 hbox hb; have n0_ := Aside0.mk (below_step HB.out hb); have n1_ := Aside0.mk (blk_below B4.out hb); have n2_ := Aside0.mk (blk_below BK.out hb); have n3_ := Aside0.mk (HS.out.mvB (Frm.below hb)); have n4_ := Aside0.mk (HM.out.mvB (Frm.below hb)); have B9 := Aside0.mk hbox; have hs0 : w10.cell? ⟨g9, 0, none⟩ = some (.int .i64 0) := (blk_cell B9.out 0).trans rfl; have hsf0 := blk_frozen B9.out 0; have hs1 : w10.cell? ⟨g9, 1, none⟩ = some (.slice none 0 0) := (blk_cell B9.out 1).trans rfl; have hsf1 := blk_frozen B9.out 1; have hs2 : w10.cell? ⟨g9, 2, none⟩ = some (.slice none 0 0) := (blk_cell B9.out 2).trans rfl; have hsf2 := blk_frozen B9.out 2; have G9 : Aside0 (w.heap.size ≤ g9) := ⟨by have := HB.out.size; omega⟩; have G9H : Aside0 (hi ≤ g9) := ⟨by have := HHI2.out; omega⟩; clear HB B4 BK HS HM; have HB := n0_; have B4 := n1_; have BK := n2_; have HS := n3_; have HM := n4_; clear n0_ n1_ n2_ n3_ n4_; clear hb hbox hg) | ((with_reducible refine gate_store (t := 75) (p := 9) rfl ?_); refine store_event (t := 75) (p := 9) (v := ?vo) (w1 := (((w10.setCell ⟨g9, 0, none⟩ (.int .i64 den)).setCell ⟨g9, 1, none⟩ (.slice (some ⟨g, 0, none⟩) n cap)).setCell ⟨g9, 2, none⟩ (.slice As n cS))) ?hg ?ho ?hn ?hr ?_; (case ho => rfl); (case hg => rfl); (case hn => rfl); (case hr => first | (go_simp; done) | (go_simp; rfl)); intro w11 hw; have hF : Frm w10 w11 g9 (g9 + 1) := (by rw [hw]; exact (Frm.set _ _ _ _).trans ((Frm.set _ _ _ _).trans (Frm.set _ _ _ _))); have nb := Aside0.mk (show w11.heap[g9]? = some (.cells #[.int .i64 den, .slice (some ⟨g, 0, none⟩) n cap, .slice As n cS] 75 (0, 0)) from (by rw [hw]; exact (blk_put (blk_put (blk_put B9.out 0 _ rfl) 1 _ rfl) 2 _ rfl))); have nB := Aside0.mk (show Below w.heap.size w w11 from (by rw [hw]; exact below_set (below_set (below_set HB.out G9.out) G9.out) G9.out)); clear hs0 hsf0 hs1 hsf1 hs2 hsf2; have n1_ := Aside0.mk ((hF.same g4 (blk_lt B4.out) (.inl (by have := G4L.out; have := HLH.out; have := G9H.out; omega))).trans B4.out); have n2_ := Aside0.mk ((hF.same gb (blk_lt BK.out) (.inl (by have := GBL.out; have := HLH.out; have := G9H.out; omega))).trans BK.out); have n3_ := Aside0.mk (HS.out.mv hF (.inl (by have := HLH.out; have := G9H.out; omega))); have n4_ := Aside0.mk (HM.out.mv hF (.inl G9H.out)); clear B4 BK HS HM; have B4 := n1_; have BK := n2_; have HS := n3_; have HM := n4_; clear n1_ n2_ n3_ n4_; have hcz1 : w11.cell? ⟨gb, 1, none⟩ = some (.slice A1 Q.length c1) := (blk_cell BK.out 1).trans rfl; clear hw HB B9 hF; have HB := nB; have B9 := nb; clear nB nb))
 go_loopg [35] n (fun gg v35 wr => ∃ j : Nat, j ≤ n ∧ n - j ≤ gg ∧ v35 = .int .i64 (j : Int) ∧ Aside0 (Below w.heap.size w wr) ∧ Aside0 (wr.heap[g4]? = some (.cells #[.int .i64 0, .slice none 0 0, .slice none 0 0] 75 (0, 0))) ∧ Aside0 (wr.heap[gb]? = some (.cells #[.slice A0 M.length c0, .slice A1 Q.length c1] 29 (0, 0))) ∧ Aside0 (wr.heap[g9]? = some (.cells #[.int .i64 den, .slice (some ⟨g, 0, none⟩) n cap, .slice As n cS] 75 (0, 0))) ∧ Aside0 (UR (Kd.int .i64) 2 w wr slo lo (.slice As n cS) side) ∧ Aside0 (US (Kd.slice 2 (Kd.int .i64)) 23 w wr lo hi (.slice (some ⟨g, 0, none⟩) n cap) (pR M cs n j 0)))
 case atStart => exact ⟨0, Nat.zero_le _, by omega, rfl, HB, B4, BK, B9, HS, ⟨by rw [pR_zero M cs n HM0.out HMR.out]; exact HM.out⟩⟩
 case round =>
  clear HB B4 BK B9 HS HM hcz1
  obtain ⟨j, hj, hgg, rfl, HB, B4, BK, B9, HS, HM⟩ := hrel
  have HG := Aside0.mk hgg
  by_cases hjn : j < n
  ·have hjz : (j : Int) < (Q.length : Int) := by omega
   have h0j : (0 : Int) ≤ (j : Int) := by omega
   have HJ := Aside0.mk hjn
   have hj1 : IntKind.i64.wrap ((j : Int) + 1) = ((j + 1 : Nat) : Int) := by rw [IntWalk.i64_in _ (by have := HN.out; omega)]; rfl
   have HJ1 := Aside0.mk hj1
   obtain ⟨th, hth, hcolf, hsol, hcsl⟩ := HCOL.out j hjn
   have HTH := Aside0.mk hth
   have HCOLF := Aside0.mk hcolf
   have HSOL := Aside0.mk hsol
   have HCSL := Aside0.mk hcsl
   have HSZ9 : Aside0 (hi ≤ wr.heap.size) := ⟨by have := blk_lt B9.out; have := G9H.out; omega⟩
   clear hth hcolf hsol hcsl hj hgg hjn
   have HBW := Aside0.mk (below_drew (Below.refl wr.heap.size wr))
   have n0_ := Aside0.mk (below_step HB.out HBW.out)
   have n1_ := Aside0.mk (blk_below BK.out HBW.out)
   have n2_ := Aside0.mk (blk_below B4.out HBW.out)
   have n3_ := Aside0.mk (blk_below B9.out HBW.out)
   have n4_ := Aside0.mk (HS.out.mvB (Frm.below HBW.out))
   have n5_ := Aside0.mk (HM.out.mvB (Frm.below HBW.out))
   clear HB BK B4 B9 HS HM HBW
   have HB := n0_
   have BK := n1_
   have B4 := n2_
   have B9 := n3_
   have HS := n4_
   have HM := n5_
   clear n0_ n1_ n2_ n3_ n4_ n5_
   have hcz0 : wr.drew.cell? ⟨gb, 0, none⟩ = some (.slice A0 M.length c0) := (blk_cell BK.out 0).trans rfl
   have hcz1 : wr.drew.cell? ⟨gb, 1, none⟩ = some (.slice A1 Q.length c1) := (blk_cell BK.out 1).trans rfl
   go_wp2
   refine st_ (n := 17) (S := fun w' => w'.cell? ⟨gb, 0, none⟩ = some (.slice A0 M.length c0) ∧ w'.cell? ⟨gb, 1, none⟩ = some (.slice A1 Q.length c1)) (ds := []) ⟨hcz0, hcz1⟩ (fun hHeld => ?_)
   generalize wr.drew = w20 at HB BK B4 B9 HS HM hcz0 hcz1 hHeld ⊢
   refine tk_ 0 39 ?_; refine pu_ 1 40 ?_; refine tk_ 2 41 ?_; refine pu_ 3 42 ?_; refine pu_ 4 43 ?_; refine pu_ 5 44 ?_
   refine on_ 6 (some 45) (fun K hK => ?_)
   refine goes_ Try.func109 (by kernel_rfl) rfl #[.int .i64 s, .int .i64 (j : Int)] (by rfl) rfl rfl (by (try simp only [List.map_toArray, List.map_cons, List.map_nil]); first | done | rfl) ?_
   refine (impl_has.calls s (j : Int) th _ HTH.out).mono ?_
   rintro e w21 ⟨rfl, hd5⟩
   refine ⟨_, rfl, ?_⟩
   have HBW := Aside0.mk hd5.below
   clear hd5 hHeld hcz0 hcz1
   have n0_ := Aside0.mk (below_step HB.out HBW.out)
   have n1_ := Aside0.mk (blk_below BK.out HBW.out)
   have n2_ := Aside0.mk (blk_below B4.out HBW.out)
   have n3_ := Aside0.mk (blk_below B9.out HBW.out)
   have n4_ := Aside0.mk (HS.out.mvB (Frm.below HBW.out))
   have n5_ := Aside0.mk (HM.out.mvB (Frm.below HBW.out))
   clear HB BK B4 B9 HS HM HBW
   have HB := n0_
   have BK := n1_
   have B4 := n2_
   have B9 := n3_
   have HS := n4_
   have HM := n5_
   clear n0_ n1_ n2_ n3_ n4_ n5_
   refine hK.out _ _ ⟨(blk_cell BK.out 0).trans rfl, (blk_cell BK.out 1).trans rfl⟩ (fun hHeld => ?_)
   clear hK K
   refine norm_ (a' := ?_) ?_ ?_
   rotate_left
   ·show Act.put _ (some 45) _ = _
    simp only [Act.put, List.setIfInBounds_toArray, List.set_cons_zero, List.set_cons_succ, i64_w, i32_w]
    rfl
   refine pu_ 7 46 ?_
   refine on_ 8 (some 47) (fun K hK => ?_)
   refine goes_ Try.func135 (by kernel_rfl) rfl #[.agg #[.slice A0 M.length c0, .slice A1 Q.length c1], .int .i64 (j : Int), .bool (!th)] (by rfl) rfl rfl (by (try simp only [List.map_toArray, List.map_cons, List.map_nil]); first | done | rfl) ?_
   refine (impl_Problem_column.calls k A0 c0 M A1 c1 Q (j : Int) (!th) (ck j) w21 (Kd.C_below HR0.out HB.out) HC0.out (Kd.C_below HR1.out HB.out) HC1.out HCOLF.out).mono ?_
   rintro e w22 ⟨vc, rfl, hRc, hb6⟩
   obtain ⟨Ac, cc, rfl⟩ := Kd.R_slice hRc
   refine ⟨_, rfl, ?_⟩
   have HRC := Aside0.mk (Kd.R_reads' hRc)
   have HBW := Aside0.mk hb6
   clear hb6 hHeld hRc
   have n0_ := Aside0.mk (below_step HB.out HBW.out)
   have n1_ := Aside0.mk (blk_below BK.out HBW.out)
   have n2_ := Aside0.mk (blk_below B4.out HBW.out)
   have n3_ := Aside0.mk (blk_below B9.out HBW.out)
   have n4_ := Aside0.mk (HS.out.mvB (Frm.below HBW.out))
   have n5_ := Aside0.mk (HM.out.mvB (Frm.below HBW.out))
   clear HB BK B4 B9 HS HM HBW
   have HB := n0_
   have BK := n1_
   have B4 := n2_
   have B9 := n3_
   have HS := n4_
   have HM := n5_
   clear n0_ n1_ n2_ n3_ n4_ n5_
   refine hK.out _ _ ⟨(blk_cell BK.out 0).trans rfl, (blk_cell BK.out 1).trans rfl⟩ (fun hHeld => ?_)
   clear hK K
   refine norm_ (a' := ?_) ?_ ?_
   rotate_left
   ·show Act.put _ (some 47) _ = _
    simp only [Act.put, List.setIfInBounds_toArray, List.set_cons_zero, List.set_cons_succ, i64_w, i32_w]
    rfl
   refine on_ 9 (some 48) (fun K hK => ?_)
   refine goes_ Try.func107 (by kernel_rfl) rfl #[.agg #[.slice A0 M.length c0, .slice A1 Q.length c1], .int .i64 s, .slice Ac (ck j).length cc] (by rfl) rfl rfl (by (try simp only [List.map_toArray, List.map_cons, List.map_nil]); first | done | rfl) ?_
   refine (impl_Problem_solve.calls k A0 c0 M A1 c1 Q s Ac cc (ck j) (cs j) (d2 j) (o2 j) w22 (Kd.C_below HR0.out HB.out) HC0.out (Kd.C_below HR1.out HB.out) HC1.out HRC.out.2.2 HRC.out.2.1 HSOL.out).mono ?_
   rintro e w23 ⟨vs, rfl, hRs, hb7⟩
   obtain ⟨Av, cv, rfl⟩ := Kd.R_slice hRs
   rw [HCSL.out]
   refine ⟨_, rfl, ?_⟩
   have HRS := Aside0.mk (UR.of hRs HB.out.size)
   have HW22 : Aside0 (g9 < w22.heap.size) := ⟨blk_lt B9.out⟩
   have HBW := Aside0.mk hb7
   skip
   clear hb7 hHeld hRs HRC
   have n0_ := Aside0.mk (below_step HB.out HBW.out)
   have n1_ := Aside0.mk (blk_below BK.out HBW.out)
   have n2_ := Aside0.mk (blk_below B4.out HBW.out)
   have n3_ := Aside0.mk (blk_below B9.out HBW.out)
   have n4_ := Aside0.mk (HS.out.mvB (Frm.below HBW.out))
   have n5_ := Aside0.mk (HM.out.mvB (Frm.below HBW.out))
   clear HB BK B4 B9 HS HM HBW
   have HB := n0_
   have BK := n1_
   have B4 := n2_
   have B9 := n3_
   have HS := n4_
   have HM := n5_
   clear n0_ n1_ n2_ n3_ n4_ n5_
   refine hK.out _ _ ⟨(blk_cell BK.out 0).trans rfl, (blk_cell BK.out 1).trans rfl⟩ (fun hHeld => ?_)
   clear hK K
   refine norm_ (a' := ?_) ?_ ?_
   rotate_left
   ·show Act.put _ (some 48) _ = _
    simp only [Act.put, List.setIfInBounds_toArray, List.set_cons_zero, List.set_cons_succ, i64_w, i32_w]
    rfl
   refine pu_ 10 38 ?_; refine pu_ 11 49 ?_; refine pu_ 12 50 ?_; refine pu_ 13 51 ?_; refine pu_ 14 11 ?_; refine pu_ 15 12 ?_; refine pu_ 16 13 ?_
   refine done_ (by kernel_rfl) ?_
   rw [HCSL.out] at HRS
   have HSE : Aside0 (hi ≤ w22.heap.size) := ⟨by have := HW22.out; have := G9H.out; omega⟩
   generalize hslo2 : w22.heap.size = slo2 at HRS HSE
   generalize hshi2 : w23.heap.size = shi2 at HRS
   clear hslo2 hshi2 HW22
   go_wp2
   go_loopg [54] n (fun gg v54 w30 => ∃ i : Nat, i ≤ n ∧ n - i ≤ gg ∧ v54 = .int .i64 (i : Int) ∧ Aside0 (Below w.heap.size w w30) ∧ Aside0 (w30.heap[g4]? = some (.cells #[.int .i64 0, .slice none 0 0, .slice none 0 0] 75 (0, 0))) ∧ Aside0 (w30.heap[gb]? = some (.cells #[.slice A0 M.length c0, .slice A1 Q.length c1] 29 (0, 0))) ∧ Aside0 (w30.heap[g9]? = some (.cells #[.int .i64 den, .slice (some ⟨g, 0, none⟩) n cap, .slice As n cS] 75 (0, 0))) ∧ Aside0 (UR (Kd.int .i64) 2 w w30 slo lo (.slice As n cS) side) ∧ Aside0 (US (Kd.slice 2 (Kd.int .i64)) 23 w w30 lo hi (.slice (some ⟨g, 0, none⟩) n cap) (pR M cs n j i)) ∧ Aside0 (UR (Kd.int .i64) 2 w w30 slo2 shi2 (.slice Av n cv) (cs j)))
   case atStart => exact ⟨0, Nat.zero_le _, by omega, rfl, HB, B4, BK, B9, HS, HM, HRS⟩
   case round =>
    clear HB B4 BK B9 HS HM HRS
    obtain ⟨i, hi_, hgg, rfl, HB, B4, BK, B9, HS, HM, HRS⟩ := hrel
    have HG2 := Aside0.mk hgg
    by_cases hin : i < n
    ·have hiz : (i : Int) < (n : Int) := by omega
     have h0i : (0 : Int) ≤ (i : Int) := by omega
     have hjz2 : (j : Int) < (n : Int) := by have := HJ.out; omega
     have HIN := Aside0.mk hin
     have hi1 : IntKind.i64.wrap ((i : Int) + 1) = ((i + 1 : Nat) : Int) := by rw [IntWalk.i64_in _ (by have := HN.out; omega)]; rfl
     have HI1 := Aside0.mk hi1
     obtain ⟨adv, eA, hcv⟩ := Kd.at_int (UR.C HRS.out) (i : Int) (by omega) (by rw [HCSL.out]; omega)
     subst eA
     rw [Int.toNat_natCast, rd_nat] at hcv
     have hc9 : wr.cell? ⟨g9, 1, none⟩ = some (.slice (some ⟨g, 0, none⟩) n cap) := (blk_cell B9.out 1).trans rfl
     have hrow := pR_row M cs n j i i (by rw [pR_len]; exact hin)
     have hpr := put_row (w0 := w) (g := g) (cap := cap) HB.out (l := pR M cs n j i) (ok := fun k => lo ≤ k ∧ k < hi) (by rw [pR_len]; exact HM.out) i (by rw [pR_len]; exact hin) j (by rw [hrow]; simpa using HJ.out)
     rw [hrow, pR_len] at hpr
     obtain ⟨b, cj, hcellg, hold, hfr, hset⟩ := hpr
     have hset2 := hset (wrap64 (-(cs j).getD i 0))
     rw [pR_set M cs n j i hin HJ.out] at hset2
     have HSET := Aside0.mk hset2
     have hcellg' : wr.cell? ⟨g, i, none⟩ = some (.slice (some ⟨b, 0, none⟩) n cj) := by simpa using hcellg
     generalize (cs j).getD i 0 = xv at hcv HSET
     clear hset hset2 hrow hcellg hin hi_ hgg
     go_wp2
     go_roundg (n - (i + 1))
     case measure => have := HG2.out; have := HIN.out; omega
     case rel =>
      have hF := Frm.kept HSET.out.2.2 (fun k hk => hk)
      exact ⟨i + 1, by have := HIN.out; omega, by omega, by first | rfl | (rw [HI1.out]) | (simp [HI1.out]), ⟨HSET.out.2.1⟩, ⟨(hF.same g4 (blk_lt B4.out) (.inl (by have := G4L.out; omega))).trans B4.out⟩, ⟨(hF.same gb (blk_lt BK.out) (.inl (by have := GBL.out; omega))).trans BK.out⟩, ⟨(hF.same g9 (blk_lt B9.out) (.inr (by have := G9H.out; omega))).trans B9.out⟩, ⟨HS.out.mv hF (.inl (Nat.le_refl _))⟩, ⟨HSET.out.1⟩, ⟨HRS.out.mv hF (.inr HSE.out)⟩⟩
    ·have hiz : ¬ (i : Int) < (n : Int) := by omega
     obtain rfl : i = n := by omega
     go_wp2
     go_roundg (i - (j + 1))
     case measure => have := HG.out; have := HJ.out; omega
     case rel => exact ⟨j + 1, by have := HJ.out; omega, by omega, by first | rfl | (rw [HJ1.out]) | (simp [HJ1.out]), HB, B4, BK, B9, HS, ⟨by rw [← pR_col]; exact HM.out⟩⟩
  ·have hjz : ¬ (j : Int) < (Q.length : Int) := by omega
   obtain rfl : j = n := by omega
   have hq0 : wr.cell? ⟨g9, 0, none⟩ = some (.int .i64 den) := (blk_cell B9.out 0).trans rfl
   have hq1 : wr.cell? ⟨g9, 1, none⟩ = some (.slice (some ⟨g, 0, none⟩) j cap) := (blk_cell B9.out 1).trans rfl
   have hq2 : wr.cell? ⟨g9, 2, none⟩ = some (.slice As j cS) := (blk_cell B9.out 2).trans rfl
   have hs0 : wr.cell? ⟨g4, 0, none⟩ = some (.int .i64 0) := (blk_cell B4.out 0).trans rfl
   have hsf0 := blk_frozen B4.out 0
   have hs1 : wr.cell? ⟨g4, 1, none⟩ = some (.slice none 0 0) := (blk_cell B4.out 1).trans rfl
   have hsf1 := blk_frozen B4.out 1
   have hs2 : wr.cell? ⟨g4, 2, none⟩ = some (.slice none 0 0) := (blk_cell B4.out 2).trans rfl
   have hsf2 := blk_frozen B4.out 2
   have G4H := G4L.out
   have G4S' := G4S.out
   go_wp2
   have hF : Frm wr (((wr.setCell ⟨g4, 0, none⟩ (.int .i64 den)).setCell ⟨g4, 1, none⟩ (.slice (some ⟨g, 0, none⟩) j cap)).setCell ⟨g4, 2, none⟩ (.slice As j cS)) g4 (g4 + 1) := (Frm.set _ _ _ _).trans ((Frm.set _ _ _ _).trans (Frm.set _ _ _ _))
   refine bodyPost_ret (results_list (rs := [.cell 4 75, .tmp 5]) rfl (by simp) (.cell g4 75 #[.int .i64 den, .slice (some ⟨g, 0, none⟩) j cap, .slice As j cS] (0, 0) _ rfl (blk_put (blk_put (blk_put B4.out 0 _ rfl) 1 _ rfl) 2 _ rfl) Try.underlying75 rfl (by kernel_rfl) (.tmp .nil))) rfl ?_
   refine ⟨_, _, rfl, ?_, Kd.R_mono (HS.out.mv hF (.inr (by omega))) (fun _ _ => trivial), below_set (below_set (below_set HB.out G4.out) G4.out) G4.out⟩
   exact Kd.S_mono (HM.out.mv hF (.inr (by omega))) (fun k hk e => by have := HS.out.1 k e.symm; omega)
end Go.Proofs.Ythdoilfjcgickaa.Pv
end
section
namespace Go.Proofs.Ythdoilfjcgickaa.Pr
open Go.RowKit Go.Proofs.YthdoilfjcgickaaW.PrintWords Go.Proofs.YthdoilfjcgickaaW.PrintLast Go.Proofs.YthdoilfjcgickaaW.PrintMore Go.Proofs.Ythdoilfjcgickaa.La Go.Proofs.Ythdoilfjcgickaa.Ma Go.Proofs.Ythdoilfjcgickaa.Hm Go.Proofs.Ythdoilfjcgickaa.Dt Go.Proofs.Ythdoilfjcgickaa.Hd Go.Proofs.Ythdoilfjcgickaa.Pv
def pvC (k : Nat) (M : List (List Int)) (Q : List Int) (s : Int) (j : Nat) : Option (List Int) := (impl_has.f s (j : Int)).bind fun t => (impl_Problem_column.f k M Q (j : Int) (!t)).bind fun c => (impl_Problem_solve.f k M Q s c).bind fun r => some r.1
def pvOK (k : Nat) (M : List (List Int)) (Q : List Int) (s : Int) (n : Nat) : Bool := (List.range n).all fun j => match pvC k M Q s j with
 | some c => c.length == n
 | none => false
def pvL (k : Nat) (M : List (List Int)) (Q : List Int) (s : Int) (j : Nat) : List Int := (pvC k M Q s j).getD []
def impl_Problem_pivot.f (k : Nat) (l0_0 : List (List Int)) (l0_1 : List Int) (a1 : Int) : Option (Int × List (List Int) × List Int × Bool) :=
 (impl_Problem_point.f k l0_0 l0_1 a1).bind fun p => if p.2.2 = true then
  (if 0 < l0_1.length ∧ l0_1.length ≤ 1000 ∧ l0_0.length = l0_1.length ∧ (l0_0.all fun x => x.length == l0_1.length) = true ∧ p.1.length = l0_1.length ∧ impl_copyRows.f k l0_0 = some l0_0 ∧ pvOK k l0_0 l0_1 a1 l0_1.length = true then
   some (p.2.1, pR l0_0 (pvL k l0_0 l0_1 a1) l0_1.length l0_1.length 0, p.1, true)
  else none)
 else some (0, [], [], false)
theorem pvC_mono (k : Nat) (M : List (List Int)) (Q : List Int) (s : Int) (i : Nat) : LeO (pvC k M Q s i) (pvC (k + 1) M Q s i) := by
 unfold pvC
 exact LeO.bind (LeO.refl _) (fun t => LeO.bind (impl_Problem_column.mono _ _ _ _ _) (fun c => LeO.bind (impl_Problem_solve.mono _ _ _ _ _) (fun _ => LeO.refl _)))
theorem pvOK_mono {k : Nat} {M : List (List Int)} {Q : List Int} {s : Int} {n : Nat} (h : pvOK k M Q s n = true) : pvOK (k + 1) M Q s n = true ∧ ∀ i, i < n → pvL (k + 1) M Q s i = pvL k M Q s i := by
 unfold pvOK at h ⊢
 rw [List.all_eq_true] at h ⊢
 have key : ∀ i, i < n → pvC (k + 1) M Q s i = pvC k M Q s i := by
  intro i hi
  have := h i (List.mem_range.2 hi)
  cases hc : pvC k M Q s i with
  | none => rw [hc] at this; cases this
  | some c => exact pvC_mono k M Q s i c hc
 refine ⟨fun i hi => ?_, fun i hi => ?_⟩
 ·rw [key i (List.mem_range.1 hi)]; exact h i hi
 ·unfold pvL; rw [key i hi]
theorem pR_congr (l : List (List Int)) (cs cs' : Nat → List Int) (n : Nat) (h : ∀ c, c < n → cs c = cs' c) : pR l cs n n 0 = pR l cs' n n 0 := by
 unfold pR
 refine List.map_congr_left (fun r _ => List.map_congr_left (fun c hc => ?_))
 unfold pE
 rw [h c (List.mem_range.1 hc)]
theorem impl_Problem_pivot.mono : ∀ a0 a1 a2 k, LeO (impl_Problem_pivot.f k a0 a1 a2) (impl_Problem_pivot.f (k + 1) a0 a1 a2) := by
 intro a0 a1 a2 k
 unfold impl_Problem_pivot.f
 refine LeO.bind (impl_Problem_point.mono _ _ _ _) (fun p => ?_)
 by_cases z : p.2.2 = true
 ·rw [if_pos z, if_pos z]
  intro r h
  split at h
  case isFalse => cases h
  rename_i hc
  obtain ⟨h1, h2, h3, h4, h5, h6, h7⟩ := hc
  obtain ⟨h8, hl⟩ := pvOK_mono h7
  rw [if_pos ⟨h1, h2, h3, h4, h5, impl_copyRows.mono _ _ _ h6, h8⟩, pR_congr _ _ _ _ hl]
  exact h
 ·rw [if_neg z, if_neg z]
  exact LeO.refl _
theorem impl_Problem_pivot.calls (k : Nat) (A0_0 : Option Addr) (c0_0 : Nat) (l0_0 : List (List Int)) (A0_1 : Option Addr) (c0_1 : Nat) (l0_1 : List Int) (a1 : Int) (r1 : Int) (r2 : List (List Int)) (r3 : List Int) (r4 : Bool) (w : World) (hr0_0 : Kd.C (Kd.slice 2 (Kd.int .i64)) w A0_0 l0_0.length l0_0) (hc0_0 : l0_0.length ≤ c0_0) (hr0_1 : Kd.C (Kd.int .i64) w A0_1 l0_1.length l0_1) (hc0_1 : l0_1.length ≤ c0_1) (h : impl_Problem_pivot.f k l0_0 l0_1 a1 = some (r1, r2, r3, r4)) :
  Calls Try.prog 101 #[.agg #[.slice A0_0 l0_0.length c0_0, .slice A0_1 l0_1.length c0_1], .int .i64 a1] w fun e w' => ∃ v0_ v1_ : Value, e = .returned (.tuple #[.agg #[.int .i64 r1, v0_, v1_], .bool r4]) ∧ Kd.S (Kd.slice 2 (Kd.int .i64)) 23 w' w.heap.size (fun k_ => some k_ ≠ (v1_ : Value).ownBlock) v0_ r2 ∧ Kd.R (Kd.int .i64) 2 w' w.heap.size (fun _ => True) v1_ r3 ∧ Below w.heap.size w w' := by
 unfold impl_Problem_pivot.f at h
 obtain ⟨⟨side, den, ok⟩, hp, h⟩ := Option.bind_eq_some_iff.mp h
 cases ok with
 | false =>
  rw [if_neg (by simp)] at h
  cases h
  refine (pivot_none k a1 side den A0_0 c0_0 l0_0 A0_1 c0_1 l0_1 w hr0_0 hc0_0 hr0_1 hc0_1 hp).mono ?_
  rintro e w' ⟨rfl, hb⟩
  refine ⟨.slice none 0 0, .slice none 0 0, rfl, ?_, ?_, hb⟩
  ·exact Kd.S_nil _ _ _ _ _
  ·exact Kd.R_nil _ _ _ _ _
 | true =>
  rw [if_pos rfl] at h
  split at h
  case isFalse => cases h
  rename_i hc
  obtain ⟨h1, h2, h3, h4, h5, h6, h7⟩ := hc
  cases h
  have hcl : ∀ j, j < l0_1.length → ∃ t c d o, impl_has.f a1 (j : Int) = some t ∧ impl_Problem_column.f k l0_0 l0_1 (j : Int) (!t) = some c ∧ impl_Problem_solve.f k l0_0 l0_1 a1 c = some (pvL k l0_0 l0_1 a1 j, d, o) ∧ (pvL k l0_0 l0_1 a1 j).length = l0_1.length := by
   intro i hi
   unfold pvOK at h7
   rw [List.all_eq_true] at h7
   have := h7 i (List.mem_range.2 hi)
   unfold pvL
   cases hcf : pvC k l0_0 l0_1 a1 i with
   | none => rw [hcf] at this; cases this
   | some c =>
    rw [hcf] at this
    obtain ⟨t, ht1, ht2⟩ := Option.bind_eq_some_iff.mp hcf
    obtain ⟨c2, ht3, ht4⟩ := Option.bind_eq_some_iff.mp ht2
    obtain ⟨⟨r, d, o⟩, ht5, ht6⟩ := Option.bind_eq_some_iff.mp ht4
    cases ht6
    exact ⟨t, c2, d, o, ht1, ht3, ht5, by simpa using this⟩
  have hcl2 : ∀ j, ∃ x : Bool × List Int × Int × Bool, j < l0_1.length → impl_has.f a1 (j : Int) = some x.1 ∧ impl_Problem_column.f k l0_0 l0_1 (j : Int) (!x.1) = some x.2.1 ∧ impl_Problem_solve.f k l0_0 l0_1 a1 x.2.1 = some (pvL k l0_0 l0_1 a1 j, x.2.2.1, x.2.2.2) ∧ (pvL k l0_0 l0_1 a1 j).length = l0_1.length := by
   intro j
   by_cases hj : j < l0_1.length
   ·obtain ⟨t, c, d, o, h⟩ := hcl j hj
    exact ⟨(t, c, d, o), fun _ => h⟩
   ·exact ⟨default, fun h => absurd h hj⟩
  obtain ⟨g, hg⟩ := Classical.axiomOfChoice hcl2
  exact pivot_calls k l0_1.length a1 side den (fun j => (g j).2.1) (pvL k l0_0 l0_1 a1) (fun j => (g j).2.2.1) (fun j => (g j).2.2.2) k A0_0 c0_0 l0_0 A0_1 c0_1 l0_1 w hr0_0 hc0_0 hr0_1 hc0_1 h3 (fun x hx => by rw [List.all_eq_true] at h4; simpa using h4 x hx) rfl h1 h2 hp h5 h6 (fun j hj => ⟨(g j).1, hg j hj⟩)
end Go.Proofs.Ythdoilfjcgickaa.Pr
end
section
namespace Go.Proofs.Ythdoilfjcgickaa.Pr
open Go.RowKit Go.Proofs.YthdoilfjcgickaaW.PrintWords Go.Proofs.YthdoilfjcgickaaW.PrintLast Go.Proofs.YthdoilfjcgickaaW.PrintMore
theorem growNil (n : Nat) (w : World) (hn : n ≤ 1099511627776) :
  Calls Try.prog 149 #[.slice none 0 0, .int .i64 (n : Int)] w fun e w' => ∃ (A : Option Addr) (c : Nat), e = .returned (.slice A 0 c) ∧ Kd.R (Kd.int .i64) 2 w' w.heap.size (fun _ => True) (.slice A 0 c) [] ∧ Below w.heap.size w w' := by
 have h0 : ¬ (n : Int) < 0 := by omega
 have w2 : IntKind.i64.wrap (n : Int) = n := IntWalk.i64_in _ (by omega)
 have HN := Aside0.mk hn
 clear hn
 by_cases c : n = 0
 ·subst c
  go_enter Try.func149, Try.ntmps149
  go_wp2
  go_ret
  exact ⟨_, _, rfl, Kd.R_nil _ _ _ _ _, Below.refl _ _⟩
 ·have hp : (n : Int) > 0 := by omega
  go_enter Try.func149, Try.ntmps149
  go_wp2_with (first | ((with_reducible refine gate_dst (N := 22) rfl ?_); refine Kd.R_append_zeros (Kd.int .i64) (w0 := w) w.heap.size rfl (.tmp 20) (.tmp 21) 23 3 2 (.int .i64 0) 8 rfl Try.underlying23 Try.underlying3 info2 rfl (by decide) (by decide) (.slice none 0 0) [] 0 (n : Int) (fun _ => True) (by rfl) (by rfl) rfl (fun _ _ => trivial) (Kd.R_nil _ _ _ _ _) (by omega) (Below.refl _ _) (Nat.le_refl _) (by have := HN.out; simp; omega) ?_; intro v1 w1 ho hb hg_ hat_; clear hg_ hat_; obtain ⟨A1, c1, rfl⟩ := Kd.R_slice ho; rw [List.nil_append, Int.toNat_natCast] at ho; have HO := Aside0.mk ho; have HB := Aside0.mk hb; clear ho hb; simp only [List.nil_append, Int.toNat_natCast, List.length_replicate] at *))
  go_ret
  refine ⟨_, _, rfl, ?_, HB.out⟩
  have := Kd.R_take (m := 0) HO.out (Nat.zero_le _)
  simpa using this
theorem flat_succ (l : List (List Int)) (i : Nat) (h : i < l.length) : (l.take (i + 1)).flatten = (l.take i).flatten ++ l[i] := by
 rw [List.take_succ_eq_append_getElem h, List.flatten_append]; simp
theorem flat_le (l : List (List Int)) (i : Nat) : (l.take i).flatten.length ≤ l.flatten.length := by
 have : (l.take i ++ l.drop i).flatten.length = (l.take i).flatten.length + (l.drop i).flatten.length := by rw [List.flatten_append, List.length_append]
 rw [List.take_append_drop] at this
 omega
theorem concatRows (A : Option Addr) (c : Nat) (l : List (List Int)) (w : World) (hr : Kd.C (Kd.slice 2 (Kd.int .i64)) w A l.length l) (hl : l.length ≤ 1099511627776) (ht : l.flatten.length ≤ 1099511627776) :
  Calls Try.prog 114 #[.slice A l.length c] w fun e w' => ∃ v : Value, e = .returned v ∧ Kd.R (Kd.int .i64) 2 w' w.heap.size (fun _ => True) v l.flatten ∧ Below w.heap.size w w' := by
 have HR := Aside0.mk hr
 have HL := Aside0.mk hl
 have HT := Aside0.mk ht
 clear hr hl ht
 go_enter Try.func114, Try.ntmps114
 go_wp2
 go_loopg [3, 5, 11] l.length (fun gg v3 v5 v11 wr => ∃ i T : Nat, i ≤ l.length ∧ l.length - i ≤ gg ∧ v11 = .int .i64 (i : Int) ∧ v3 = .int .i64 (T : Int) ∧ Aside0 (T = (l.take i).flatten.length) ∧ Aside0 (Below w.heap.size w wr))
 case atStart => exact ⟨0, 0, Nat.zero_le _, by omega, rfl, rfl, ⟨by simp⟩, ⟨Below.refl _ _⟩⟩
 case round =>
  obtain ⟨i, T, hi, hg, rfl, rfl, HTI, HB⟩ := hrel
  by_cases hlt : i < l.length
  ·obtain ⟨ad, A', c', e, hx, hc', hi'⟩ := at_L1 HR.out i (by omega) (by omega)
   cases e
   rw [Int.toNat_natCast] at hx
   have hx' := (HB.out.cell (World.block_lt_of_cell? w _ hx)).trans hx
   clear hx hi' hc'
   rw [show rd_L1 l (i : Int) = l[i] from by simp [rd_L1, hlt]] at hx'
   have h1 := flat_succ l i hlt
   have h2 := flat_le l (i + 1)
   have h3 : (l.take (i + 1)).flatten.length = (l.take i).flatten.length + l[i].length := by rw [h1, List.length_append]
   have hTI := HTI.out
   have hw : IntKind.i64.wrap ((T : Int) + (l[i].length : Int)) = ((T + l[i].length : Nat) : Int) := by rw [IntWalk.i64_in _ (by have := HT.out; omega)]; omega
   have hnn : ¬ ((T + l[i].length : Nat) : Int) < 0 := by omega
   have HN := Aside0.mk (show T + l[i].length = (l.take (i + 1)).flatten.length by omega)
   have hltz : (i : Int) < (l.length : Int) := by omega
   have h0z : (0 : Int) ≤ (i : Int) := by omega
   have hi1 : IntKind.i64.wrap ((i : Int) + 1) = ((i + 1 : Nat) : Int) := by rw [IntWalk.i64_in _ (by have := HL.out; omega)]; rfl
   have HLT := Aside0.mk hlt
   have HG := Aside0.mk hg
   have HI1 := Aside0.mk hi1
   generalize hq : l[i] = q at hx' hw h1 h3 hnn HN
   clear hq h1 h2 h3 hlt hi hg hTI HTI
   generalize q.length = q at hx' hw hnn HN
   generalize T + q = T2 at hw hnn HN
   go_wp2
   go_roundg (l.length - (i + 1))
   case measure => have := HG.out; have := HLT.out; omega
   case rel => exact ⟨i + 1, T2, by have := HLT.out; omega, by omega, by first | rfl | (rw [HI1.out]) | (simp [HI1.out]), by rfl, HN, HB⟩
  ·have hltz : ¬ (i : Int) < (l.length : Int) := by omega
   obtain rfl : i = l.length := by omega
   rw [List.take_length] at HTI
   clear hi hg hlt
   go_wp2_with fail
   refine (growNil T wr (by rw [HTI.out]; exact HT.out)).mono ?_
   rintro e w1 ⟨A1, c1, rfl, hR, hb⟩
   have HO := Aside0.mk (Kd.R_lower hR HB.out.size)
   have n0_ := Aside0.mk (below_step HB.out hb)
   clear HB hR hb
   have HB := n0_
   clear n0_
   go_wp2
   go_loopg [6, 8, 27] l.length (fun gg v6 v8 v27 wr => ∃ i : Nat, i ≤ l.length ∧ l.length - i ≤ gg ∧ v27 = .int .i64 (i : Int) ∧ Aside0 (Kd.R (Kd.int .i64) 2 wr w.heap.size (fun _ => True) v6 (l.take i).flatten) ∧ Aside0 (Below w.heap.size w wr))
   case atStart => exact ⟨0, Nat.zero_le _, by omega, rfl, ⟨by simpa using HO.out⟩, HB⟩
   case round =>
    clear HO HB
    obtain ⟨i, hi, hg, rfl, HO, HB⟩ := hrel
    by_cases hlt : i < l.length
    ·obtain ⟨ad, A', c', e, hx, hc', hi'⟩ := at_L1 HR.out i (by omega) (by omega)
     cases e
     rw [Int.toNat_natCast] at hx
     have hx' := (HB.out.cell (World.block_lt_of_cell? w _ hx)).trans hx
     clear hx
     rw [show rd_L1 l (i : Int) = l[i] from by simp [rd_L1, hlt]] at hx' hc' hi'
     have h1 := flat_succ l i hlt
     have h2 := flat_le l (i + 1)
     have h3 : (l.take i).flatten.length + l[i].length ≤ 1099511627776 := by rw [h1, List.length_append] at h2; have := HT.out; omega
     have hltz : (i : Int) < (l.length : Int) := by omega
     have h0z : (0 : Int) ≤ (i : Int) := by omega
     have hi1 : IntKind.i64.wrap ((i : Int) + 1) = ((i + 1 : Nat) : Int) := by rw [IntWalk.i64_in _ (by have := HL.out; omega)]; rfl
     have HLT := Aside0.mk hlt
     have HG := Aside0.mk hg
     have HI1 := Aside0.mk hi1
     have H3 := Aside0.mk h3
     have HI := Aside0.mk (Kd.C_below hi' HB.out)
     have HF := Aside0.mk h1
     generalize hq : l[i] = q at hx' H3 HI HF h1 h3 hc' hi'
     clear hq h1 h2 h3 hlt hi hg hc' hi'
     generalize (l.take i).flatten = S at HO H3 HF
     obtain ⟨Ao, co, rfl⟩ := Kd.R_slice HO.out
     go_wp2_with (first | ((with_reducible refine gate_dst (N := 33) rfl ?_); (refine Kd.R_append_row (Value.int .i64) 0 (w0 := w) w.heap.size rfl (.tmp 31) (.tmp 32) 23 2 (.int .i64 0) 8 rfl Try.underlying23 info2 rfl (by decide) (.slice Ao S.length co) S q A' q.length c' (fun _ => True) (by rfl) (by rfl) (fun _ _ => trivial) HO.out HI.out HB.out HB.out.size (by have := H3.out; omega) ?_; intro v2 w2 ho hb hg_ hat_; clear hg_ hat_; have n0_ := Aside0.mk ho; have n1_ := Aside0.mk hb; clear ho hb HO HB HI; have HO := n0_; have HB := n1_; clear n0_ n1_)))
     go_roundg (l.length - (i + 1))
     case measure => have := HG.out; have := HLT.out; omega
     case rel => exact ⟨i + 1, by have := HLT.out; omega, by omega, by first | rfl | (rw [HI1.out]) | (simp [HI1.out]), ⟨by rw [HF.out]; exact HO.out⟩, HB⟩
    ·have hltz : ¬ (i : Int) < (l.length : Int) := by omega
     obtain rfl : i = l.length := by omega
     rw [List.take_length] at HO
     go_wp2
     go_ret
     exact ⟨_, rfl, HO.out, HB.out⟩
end Go.Proofs.Ythdoilfjcgickaa.Pr
end
section
namespace Go.Proofs.Ythdoilfjcgickaa.Pr
open Go.RowKit Go.Proofs.YthdoilfjcgickaaW.PrintWords Go.Proofs.YthdoilfjcgickaaW.PrintLast Go.Proofs.YthdoilfjcgickaaW.PrintMore
def restP (d n : Int) : Bool := decide (Int.tmod n d ≠ 0)
theorem isWhole1 (gb : Nat) (d n : Int) (w : World) (hd : d ≠ 0) (hb : w.cell? ⟨gb, 0, none⟩ = some (.int .i64 d)) :
  Calls Try.prog 115 (#[.int .i64 n] ++ #[.pointer (some ⟨gb, 0, none⟩)]) w fun e w' => e = .returned (.bool (restP d n)) ∧ Below w.heap.size w w' := by
 show Calls Try.prog 115 #[.int .i64 n, .pointer (some ⟨gb, 0, none⟩)] w _
 have hd0 : (d == 0) = false := by simpa using hd
 go_enter Try.func115, Try.ntmps115
 go_wp2
 go_ret
 have e : (Int.tmod n d != 0) = restP d n := by unfold restP; rw [Bool.eq_iff_iff]; simp
 rw [← e]
 exact ⟨rfl, Below.refl _ _⟩
theorem isWhole1_enters : ∀ args w, (callFunc 115 args).run Try.prog w = .ok (.enter 115 args) w := enters_fn Try.func115 (by kernel_rfl) rfl
theorem C_two {w : World} {g : Nat} {A1 A2 : Option Addr} {c1 c2 : Nat} {x y : List Int} {t : Nat} (hb : w.heap[g]? = some (.cells #[.slice A1 x.length c1, .slice A2 y.length c2] t (0, 0))) (h1 : Kd.C (Kd.int .i64) w A1 x.length x) (l1 : x.length ≤ c1) (h2 : Kd.C (Kd.int .i64) w A2 y.length y) (l2 : y.length ≤ c2) :
  Kd.C (Kd.slice 2 (Kd.int .i64)) w (some ⟨g, 0, none⟩) [x, y].length [x, y] := by
 refine ⟨rfl, by simp, fun _ => ⟨_, rfl, fun j p hp => ?_⟩⟩
 have hj : j < 2 := by have := (List.getElem?_eq_some_iff.1 hp).1; simpa using this
 have h0 : (⟨g, 0, none⟩ : Addr).add (j * (Kd.slice 2 (Kd.int .i64)).sz + 0) = ⟨g, j, none⟩ := by
  show (⟨g, 0, none⟩ : Addr).add (j * 1 + 0) = _
  rw [Nat.mul_one, Nat.add_zero]; unfold Addr.add; split <;> simp_all
 match j, hj with
 | 0, _ =>
  cases hp
  refine ⟨[.slice A1 x.length c1], rfl, ⟨A1, c1, rfl, l1, h1⟩, fun u v hv => ?_⟩
  cases u with
  | zero => cases hv; rw [h0]; exact (blk_cell hb 0).trans rfl
  | succ u => simp at hv
 | 1, _ =>
  cases hp
  refine ⟨[.slice A2 y.length c2], rfl, ⟨A2, c2, rfl, l2, h2⟩, fun u v hv => ?_⟩
  cases u with
  | zero => cases hv; rw [h0]; exact (blk_cell hb 1).trans rfl
  | succ u => simp at hv
def impl_Pivot_isWhole.f (a0_0 : Int) (l0_1 : List (List Int)) (l0_2 : List Int) : Option Bool := if a0_0 ≠ 0 ∧ l0_1.length ≤ 1000000 ∧ l0_1.flatten.length ≤ 1000000 ∧ l0_2.length ≤ 1000000 then some (!((l0_1.flatten ++ l0_2).any (restP a0_0))) else none
theorem impl_Pivot_isWhole.calls (a0_0 : Int) (A0_1 : Option Addr) (c0_1 : Nat) (l0_1 : List (List Int)) (A0_2 : Option Addr) (c0_2 : Nat) (l0_2 : List Int) (r : Bool) (w : World) (hr0_1 : Kd.C (Kd.slice 2 (Kd.int .i64)) w A0_1 l0_1.length l0_1) (hc0_1 : l0_1.length ≤ c0_1) (hr0_2 : Kd.C (Kd.int .i64) w A0_2 l0_2.length l0_2) (hc0_2 : l0_2.length ≤ c0_2) (h : impl_Pivot_isWhole.f a0_0 l0_1 l0_2 = some r) :
  Calls Try.prog 83 #[.agg #[.int .i64 a0_0, .slice A0_1 l0_1.length c0_1, .slice A0_2 l0_2.length c0_2]] w fun e w' => e = .returned (.bool r) ∧ Below w.heap.size w w' := by
 unfold impl_Pivot_isWhole.f at h
 split at h
 case isFalse => cases h
 rename_i hq
 have HR1 := Aside0.mk hr0_1
 have HR2 := Aside0.mk hr0_2
 have HC2 := Aside0.mk hc0_2
 have HQ := Aside0.mk hq
 have HV := Aside0.mk (Option.some.inj h)
 have HB := Aside0.mk (Below.refl w.heap.size w)
 clear hr0_1 hc0_1 hr0_2 hc0_2 h hq
 go_enter Try.func83, Try.ntmps83
 go_wp2_with (first | ((with_reducible refine gate_dst (N := 1) rfl ?_); refine box_event ?hg (N := 1) ?hd (cs := #[.int .i64 a0_0, .slice A0_1 l0_1.length c0_1, .slice A0_2 l0_2.length c0_2]) (t := 75) ?hr ?_; (case hd => rfl); (case hg => rfl); (case hr => first | (go_simp; done) | (go_simp; rfl)); intro gb hg w6 hbox hb; have n0_ := Aside0.mk (bs_ hb); have BK := Aside0.mk hbox; clear HB; have HB := n0_; clear n0_ hb hbox hg))
 have n0_ := Aside0.mk (below_drew HB.out)
 have n1_ := Aside0.mk (blk_drew BK.out)
 clear HB BK
 have HB := n0_
 have BK := n1_
 clear n0_ n1_
 have c1 := cz_ BK 1
 have c2 := cz_ BK 2
 refine st_ (n := 11) (S := fun w' => w'.cell? ⟨gb, 1, none⟩ = some (.slice A0_1 l0_1.length c0_1) ∧ w'.cell? ⟨gb, 2, none⟩ = some (.slice A0_2 l0_2.length c0_2)) (ds := []) ⟨c1, c2⟩ (fun hHeld => ?_)
 generalize w6.drew = w9 at HB BK c1 c2 hHeld ⊢
 refine pu_ 0 3 ?_; refine pu_ 3 6 ?_; refine tk_ 1 4 ?_; refine tk_ 4 7 ?_; refine pu_ 7 10 ?_
 refine on_ 2 (some 5) (fun K hK => ?_)
 refine ca_ Try.func114 #[.slice A0_1 l0_1.length c0_1] ?_
 refine (concatRows A0_1 c0_1 l0_1 w9 (Kd.C_below HR1.out HB.out) (by have := HQ.out; omega) (by have := HQ.out; omega)).mono ?_
 rintro e w10 ⟨v, rfl, hR, hb⟩
 generalize l0_1.flatten = F at hR HV HQ
 obtain ⟨Av, cv, rfl⟩ := Kd.R_slice hR
 refine ⟨_, rfl, ?_⟩
 have n0_ := Aside0.mk (bs_ hb)
 have n1_ := Aside0.mk (blk_below BK.out hb)
 have HO := Aside0.mk (Kd.R_reads' hR)
 clear HB BK hb hR hHeld
 have HB := n0_
 have BK := n1_
 clear n0_ n1_
 refine hK.out _ _ ⟨cz_ BK 1, cz_ BK 2⟩ (fun hHeld => ?_)
 clear hK K
 refine no_ ?_
 refine on_ 5 (some 8) (fun K hK => ?_)
 refine va_ ?_
 have hb : Below w10.heap.size w10 (w10.alloc (.cells #[.slice Av F.length cv, .slice A0_2 l0_2.length c0_2] 23)) := below_alloc (Below.refl _ _) _
 have n0_ := Aside0.mk (bs_ hb)
 have n1_ := Aside0.mk (blk_below BK.out hb)
 have HTW : Aside0 (Kd.C (Kd.slice 2 (Kd.int .i64)) (w10.alloc (.cells #[.slice Av F.length cv, .slice A0_2 l0_2.length c0_2] 23)) (some ⟨w10.heap.size, 0, none⟩) [F, l0_2].length [F, l0_2]) := ⟨C_two (by unfold World.alloc; exact Array.getElem?_push_size) (Kd.C_below HO.out.2.2 hb) HO.out.2.1 (Kd.C_below HR2.out n0_.out) HC2.out⟩
 clear HB BK HO hb hHeld
 have HB := n0_
 have BK := n1_
 clear n0_ n1_
 generalize (w10.alloc (.cells #[.slice Av F.length cv, .slice A0_2 l0_2.length c0_2] 23)) = w11 at *
 generalize w10.heap.size = g2 at *
 refine hK.out _ _ ⟨cz_ BK 1, cz_ BK 2⟩ (fun hHeld => ?_)
 clear hK K
 refine no_ ?_
 refine on_ 6 (some 9) (fun K hK => ?_)
 refine ca_ Try.func114 #[.slice (some ⟨g2, 0, none⟩) 2 2] ?_
 refine (concatRows (some ⟨g2, 0, none⟩) 2 [F, l0_2] w11 HTW.out (by simp) (by have := HQ.out; simp only [List.flatten_cons, List.flatten_nil, List.append_nil, List.length_append]; omega)).mono ?_
 rintro e w12 ⟨v, rfl, hR, hb⟩
 rw [show [F, l0_2].flatten = F ++ l0_2 from by simp] at hR
 generalize F ++ l0_2 = L at hR HV
 obtain ⟨Ax, cx, rfl⟩ := Kd.R_slice hR
 refine ⟨_, rfl, ?_⟩
 have n0_ := Aside0.mk (bs_ hb)
 have n1_ := Aside0.mk (blk_below BK.out hb)
 have HO := Aside0.mk (Kd.R_reads' hR)
 clear HB BK hb hR hHeld HTW
 have HB := n0_
 have BK := n1_
 clear n0_ n1_
 refine hK.out _ _ ⟨cz_ BK 1, cz_ BK 2⟩ (fun hHeld => ?_)
 clear hK K
 refine no_ ?_
 refine on_ 8 (some 11) (fun K hK => ?_)
 refine ca_ Try.func113 #[.slice Ax L.length cx, .func (.func 115) #[] #[.pointer (some ⟨gb, 0, none⟩)]] ?_
 refine (containsFuncInts (restP a0_0) 115 #[.pointer (some ⟨gb, 0, none⟩)] isWhole1_enters Ax cx L w12 HO.out.2.2 (fun W' x _ hb => isWhole1 gb a0_0 x W' HQ.out.1 ((blk_cell (blk_below BK.out hb) 0).trans rfl))).mono ?_
 rintro e w13 ⟨rfl, hb⟩
 refine ⟨_, rfl, ?_⟩
 have n0_ := Aside0.mk (bs_ hb)
 have n1_ := Aside0.mk (blk_below BK.out hb)
 clear HB BK hb HO hHeld
 have HB := n0_
 have BK := n1_
 clear n0_ n1_
 refine hK.out _ _ ⟨cz_ BK 1, cz_ BK 2⟩ (fun hHeld => ?_)
 clear hK K
 refine no_ ?_
 refine pu_ 9 12 ?_; refine pu_ 10 2 ?_
 refine done_ (by kernel_rfl) ?_
 go_wp2
 go_ret
 exact ⟨by rw [← HV.out]; rfl, HB.out⟩
end Go.Proofs.Ythdoilfjcgickaa.Pr
end
section
namespace Go.Proofs.Ythdoilfjcgickaa.Pr
open Go.RowKit Go.Proofs.YthdoilfjcgickaaW.PrintWords Go.Proofs.YthdoilfjcgickaaW.PrintLast Go.Proofs.YthdoilfjcgickaaW.PrintMore
attribute [local go_sem] max2_int min2_int max_two min_two max_three min_three max_four min_four
def impl_pivotOf.f (k : Nat) (l0_0 : List (List Int)) (l0_1 : List Int) (a1 : Int) : Option (Int × (List (List Int)) × List Int × Int) := (impl_setCode.f l0_0 l0_1 a1).bind fun t367 => (if t367 = 0 then ((impl_Problem_pivot.f k l0_0 l0_1 a1).bind fun bt368 => (if bt368.2.2.2 = true then (some (bt368.1, bt368.2.1, bt368.2.2.1, 0)) else (some (0, ([] : List (List Int)), ([] : List Int), 5)))) else (some (0, ([] : List (List Int)), ([] : List Int), t367)))
theorem impl_pivotOf.mono : ∀ a0 a1 a2 k, LeO (impl_pivotOf.f k a0 a1 a2) (impl_pivotOf.f (k + 1) a0 a1 a2) := by
 intro a0 a1 a2 k
 unfold impl_pivotOf.f
 repeat' first
   | (with_reducible exact impl_Problem_pivot.mono _ _ _ _)
   | (with_reducible exact LeO.refl _)
   | (with_reducible exact LeO.none _)
   | (with_reducible refine LeO.ite ?_ ?_)
   | (with_reducible refine LeO.bind ?_ (fun _ => ?_))
   | exact impl_Problem_pivot.mono _ _ _ _
   | exact LeO.none _
   | refine LeO.ite ?_ ?_
   | refine LeO.bind ?_ (fun _ => ?_)
theorem impl_pivotOf.calls (k : Nat) (A0_0 : Option Addr) (c0_0 : Nat) (l0_0 : List (List Int)) (A0_1 : Option Addr) (c0_1 : Nat) (l0_1 : List Int) (a1 : Int) (r1 : Int) (r2 : List (List Int)) (r3 : List Int) (r4 : Int) (w : World) (hr0_0 : Kd.C (Kd.slice 2 (Kd.int .i64)) w A0_0 l0_0.length l0_0) (hc0_0 : l0_0.length ≤ c0_0) (hr0_1 : Kd.C (Kd.int .i64) w A0_1 l0_1.length l0_1) (hc0_1 : l0_1.length ≤ c0_1) (h : impl_pivotOf.f k l0_0 l0_1 a1 = some (r1, r2, r3, r4)) :
  Calls Try.prog 63 #[.agg #[.slice A0_0 l0_0.length c0_0, .slice A0_1 l0_1.length c0_1], .int .i64 a1] w fun e w' => ∃ v1_ v2_ : Value, e = .returned (.tuple #[.agg #[.int .i64 r1, v1_, v2_], .int .i64 r4]) ∧ Kd.S (Kd.slice 2 (Kd.int .i64)) 23 w' w.heap.size (fun k_ => some k_ ≠ (v2_ : Value).ownBlock) v1_ r2 ∧ Kd.R (Kd.int .i64) 2 w' w.heap.size (fun _ => True) v2_ r3 ∧ Below w.heap.size w w' := by
 have hu29 := Try.underlying29
 have hu75 := Try.underlying75
 have HR0_0 := Aside0.mk hr0_0
 have HC0_0 := Aside0.mk hc0_0
 clear hr0_0 hc0_0
 have HR0_1 := Aside0.mk hr0_1
 have HC0_1 := Aside0.mk hc0_1
 clear hr0_1 hc0_1
 have HB := Aside0.mk (Below.refl w.heap.size w)
 have H : ((impl_setCode.f l0_0 l0_1 a1).bind fun t367 => (if t367 = 0 then ((impl_Problem_pivot.f k l0_0 l0_1 a1).bind fun bt368 => (if bt368.2.2.2 = true then (some (bt368.1, bt368.2.1, bt368.2.2.1, 0)) else (some (0, ([] : List (List Int)), ([] : List Int), 5)))) else (some (0, ([] : List (List Int)), ([] : List Int), t367)))) = some (r1, r2, r3, r4) := h
 clear h
 replace H := Option.bind_eq_some_iff.mp H
 obtain ⟨t367, A30, H⟩ := H
 replace H : (if t367 = 0 then ((impl_Problem_pivot.f k l0_0 l0_1 a1).bind fun bt368 => (if bt368.2.2.2 = true then (some (bt368.1, bt368.2.1, bt368.2.2.1, 0)) else (some (0, ([] : List (List Int)), ([] : List Int), 5)))) else (some (0, ([] : List (List Int)), ([] : List Int), t367))) = some (r1, r2, r3, r4) := H
 have A3 := Aside0.mk A30
 clear A30
 by_cases c4 : t367 = 0
 ·rw [if_pos c4] at H
  have c4b0 : (t367 == 0) = true := beq_iff_eq.mpr c4
  have c4b1 : (t367 != 0) = false := bne_eq_false_iff_eq.mpr c4
  clear c4
  replace H := Option.bind_eq_some_iff.mp H
  obtain ⟨⟨t368, t369, t372, t375⟩, A50, H⟩ := H
  replace H : (if t375 = true then (some (t368, t369, t372, 0)) else (some (0, ([] : List (List Int)), ([] : List Int), 5))) = some (r1, r2, r3, r4) := H
  have A5 := Aside0.mk A50
  clear A50
  by_cases c6 : t375 = true
  ·subst c6
   have H1 : (some (t368, t369, t372, 0)) = some (r1, r2, r3, r4) := by rw [if_pos rfl] at H; exact H
   clear H
   have H := H1
   clear H1
   simp only [Option.some.injEq, Prod.mk.injEq] at H
   obtain ⟨rfl, rfl, rfl, rfl⟩ := H
   go_enter Try.func63, Try.ntmps63
   go_wp2_with (first | ((with_reducible refine gate_dst (N := 2) rfl ?_); refine box_event ?hg (N := 2) ?hd (cs := #[.slice A0_0 l0_0.length c0_0, .slice A0_1 l0_1.length c0_1]) (t := 29) ?hr ?_; (case hd => rfl); (case hg => rfl); (case hr => first | (go_simp; done) | (go_simp; rfl)); intro gb365 hg w7 hbox hb; have n0_ := Aside0.mk (bs_ hb); have n1_ := Aside0.mk (hbox); have n2_ := Aside0.mk ((by rw [hg]; exact bz_ : w.heap.size ≤ gb365)); have n3_ := Aside0.mk ((by rw [hg]; exact bz_ : w.heap.size ≤ gb365)); clear HB; have HB := n0_; have BK365 := n1_; have GW365 := n2_; have GE365 := n3_; clear n0_ n1_ n2_ n3_; clear hb hbox hg) | ((with_reducible refine gate_dst (N := 4) rfl ?_); refine box_event ?hg (N := 4) ?hd (cs := #[.int .i64 0, .slice none 0 0, .slice none 0 0]) (t := 75) ?hr ?_; (case hd => rfl); (case hg => rfl); (case hr => first | (go_simp; done) | (go_simp; rfl)); intro gb366 hg w8 hbox hb; have n0_ := Aside0.mk (bb_ BK365.out hb); have n1_ := Aside0.mk (bs_ hb); have n2_ := Aside0.mk (hbox); have n3_ := Aside0.mk ((by rw [hg]; exact bz_ : w.heap.size ≤ gb366)); have n4_ := Aside0.mk ((by rw [hg]; exact bz_ : w.heap.size ≤ gb366)); have n5_ := Aside0.mk ((by rw [hg]; exact lt_ BK365.out : gb365 ≠ gb366)); have n6_ := Aside0.mk ((by rw [hg]; exact gt_ BK365.out : gb366 ≠ gb365)); clear BK365; clear HB; have BK365 := n0_; have HB := n1_; have BK366 := n2_; have GW366 := n3_; have GE366 := n4_; have NB365_366 := n5_; have NB366_365 := n6_; clear n0_ n1_ n2_ n3_ n4_ n5_ n6_; clear hb hbox hg; have hnb9 := NB365_366.out; have hnc9 := NB366_365.out; have hcz10_0 : w8.cell? ⟨gb365, 0, none⟩ = some (.slice A0_0 l0_0.length c0_0) := (blk_cell BK365.out 0).trans rfl; have hcz10_1 : w8.cell? ⟨gb365, 1, none⟩ = some (.slice A0_1 l0_1.length c0_1) := (blk_cell BK365.out 1).trans rfl; have hfz10_0 := blk_frozen BK365.out 0; have hfz10_1 := blk_frozen BK365.out 1) | ((with_reducible refine gate_callee (f := 76) rfl ?_); refine goesL_ (some 11) rfl rfl Try.func76 (by kernel_rfl) rfl #[.agg #[.slice A0_0 l0_0.length c0_0, .slice A0_1 l0_1.length c0_1], .int .i64 a1] rfl (by (try simp only [List.map_toArray, List.map_cons, List.map_nil]); first | done | rfl | (simp only [List.length_drop, List.length_take]; rfl)) ?_; (with_reducible refine (impl_setCode.calls _ _ l0_0 _ _ l0_1 a1 t367 _ ?side1 ?side2 ?side3 ?side4 A3.out).mono ?_); (case side1 => exact cb_ HR0_0.out HB.out); (case side2 => exact HC0_0.out); (case side3 => exact cb_ HR0_1.out HB.out); (case side4 => exact HC0_1.out); rintro e w11 ⟨rfl, hb⟩; refine ⟨_, rfl, ?_⟩; have n0_ := Aside0.mk (bb_ BK365.out hb); have n1_ := Aside0.mk (bb_ BK366.out hb); have n2_ := Aside0.mk (bs_ hb); clear BK365; clear BK366; clear HB; have BK365 := n0_; have BK366 := n1_; have HB := n2_; clear n0_ n1_ n2_; (try clear hb); (try clear hb2); (try clear hk); (try clear hi); have hcz12_0 : w11.cell? ⟨gb365, 0, none⟩ = some (.slice A0_0 l0_0.length c0_0) := (blk_cell BK365.out 0).trans rfl; have hcz12_1 : w11.cell? ⟨gb365, 1, none⟩ = some (.slice A0_1 l0_1.length c0_1) := (blk_cell BK365.out 1).trans rfl; have hfz12_0 := blk_frozen BK365.out 0; have hfz12_1 := blk_frozen BK365.out 1) | ((with_reducible refine gate_callee (f := 101) rfl ?_); refine goesL_ (some 19) rfl rfl Try.func101 (by kernel_rfl) rfl #[.agg #[.slice A0_0 l0_0.length c0_0, .slice A0_1 l0_1.length c0_1], .int .i64 a1] rfl (by (try simp only [List.map_toArray, List.map_cons, List.map_nil]); first | done | rfl | (simp only [List.length_drop, List.length_take]; rfl)) ?_; (with_reducible refine (impl_Problem_pivot.calls k _ _ l0_0 _ _ l0_1 a1 t368 t369 t372 true _ ?side1 ?side2 ?side3 ?side4 A5.out).mono ?_); (case side1 => exact cb_ HR0_0.out HB.out); (case side2 => exact HC0_0.out); (case side3 => exact cb_ HR0_1.out HB.out); (case side4 => exact HC0_1.out); rintro e w13 ⟨v370, v373, rfl, ho0, ho1, hb⟩; refine ⟨_, rfl, ?_⟩; have n0_ := Aside0.mk (Kd.S_lower ho0 bz_); have n1_ := Aside0.mk (Kd.R_lower ho1 bz_); have n2_ := Aside0.mk (bb_ BK365.out hb); have n3_ := Aside0.mk (bb_ BK366.out hb); have n4_ := Aside0.mk (bs_ hb); clear BK365; clear BK366; clear HB; have HO371 := n0_; have HO374 := n1_; have BK365 := n2_; have BK366 := n3_; have HB := n4_; clear n0_ n1_ n2_ n3_ n4_; (try clear hb); (try clear hb2); (try clear hk); (try clear hi); (try clear ho0); (try clear ho1)) | ((with_reducible refine gate_dst (N := 7) rfl ?_); refine box_event ?hg (N := 7) ?hd (cs := #[.int .i64 0, .slice none 0 0, .slice none 0 0]) (t := 75) ?hr ?_; (case hd => rfl); (case hg => rfl); (case hr => first | (go_simp; done) | (go_simp; rfl)); intro gb376 hg w14 hbox hb; have n0_ := Aside0.mk (Kd.S_below (so_ HO371.out) hb); have n1_ := Aside0.mk (rb_ HO374.out hb); have n2_ := Aside0.mk (bb_ BK365.out hb); have n3_ := Aside0.mk (bb_ BK366.out hb); have n4_ := Aside0.mk (bs_ hb); have n5_ := Aside0.mk (hbox); have n6_ := Aside0.mk ((by rw [hg]; exact bz_ : w.heap.size ≤ gb376)); have n7_ := Aside0.mk ((by rw [hg]; exact bz_ : w.heap.size ≤ gb376)); have n8_ := Aside0.mk ((by rw [hg]; exact lt_ BK365.out : gb365 ≠ gb376)); have n9_ := Aside0.mk ((by rw [hg]; exact gt_ BK365.out : gb376 ≠ gb365)); have n10_ := Aside0.mk ((by rw [hg]; exact lt_ BK366.out : gb366 ≠ gb376)); have n11_ := Aside0.mk ((by rw [hg]; exact gt_ BK366.out : gb376 ≠ gb366)); clear HO371; clear HO374; clear BK365; clear BK366; clear HB; have HO371 := n0_; have HO374 := n1_; have BK365 := n2_; have BK366 := n3_; have HB := n4_; have BK376 := n5_; have GW376 := n6_; have GE376 := n7_; have NB365_376 := n8_; have NB376_365 := n9_; have NB366_376 := n10_; have NB376_366 := n11_; clear n0_ n1_ n2_ n3_ n4_ n5_ n6_ n7_ n8_ n9_ n10_ n11_; clear hb hbox hg; have hnb15 := NB376_365.out; have hnc15 := NB365_376.out; have hnb16 := NB376_366.out; have hnc16 := NB366_376.out; have hcz17_0 : w14.cell? ⟨gb376, 0, none⟩ = some (.int .i64 0) := (blk_cell BK376.out 0).trans rfl; have hcz17_1 : w14.cell? ⟨gb376, 1, none⟩ = some (.slice none 0 0) := (blk_cell BK376.out 1).trans rfl; have hcz17_2 : w14.cell? ⟨gb376, 2, none⟩ = some (.slice none 0 0) := (blk_cell BK376.out 2).trans rfl; have hfz17_0 := blk_frozen BK376.out 0; have hfz17_1 := blk_frozen BK376.out 1; have hfz17_2 := blk_frozen BK376.out 2; obtain ⟨Ao18, co18, eo18⟩ := Kd.S_slice HO371.out; subst eo18; obtain ⟨Ao19, co19, eo19⟩ := Kd.R_slice HO374.out; subst eo19; have hcz20_0 : w14.cell? ⟨gb366, 0, none⟩ = some (.int .i64 0) := (blk_cell BK366.out 0).trans rfl; have hcz20_1 : w14.cell? ⟨gb366, 1, none⟩ = some (.slice none 0 0) := (blk_cell BK366.out 1).trans rfl; have hcz20_2 : w14.cell? ⟨gb366, 2, none⟩ = some (.slice none 0 0) := (blk_cell BK366.out 2).trans rfl; have hfz20_0 := blk_frozen BK366.out 0; have hfz20_1 := blk_frozen BK366.out 1; have hfz20_2 := blk_frozen BK366.out 2))
   refine bodyPost_ret (results_ct rfl _ _ gb366 75 #[.int .i64 t368, .slice Ao18 t369.length co18, .slice Ao19 t372.length co19] (0, 0) _ rfl (by (with_reducible repeat (first | refine blk_drewN ?_ _ | refine blk_drew ?_ | refine blk_alloc ?_ _)); refine blk_put (cs := #[.int .i64 t368, .slice Ao18 t369.length co18, .slice none 0 0]) ?_ 2 _ rfl; (with_reducible repeat (first | refine blk_drewN ?_ _ | refine blk_drew ?_ | refine blk_alloc ?_ _)); refine blk_put (cs := #[.int .i64 t368, .slice none 0 0, .slice none 0 0]) ?_ 1 _ rfl; (with_reducible repeat (first | refine blk_drewN ?_ _ | refine blk_drew ?_ | refine blk_alloc ?_ _)); refine blk_put (cs := #[.int .i64 0, .slice none 0 0, .slice none 0 0]) ?_ 0 _ rfl; (with_reducible repeat (first | refine blk_drewN ?_ _ | refine blk_drew ?_ | refine blk_alloc ?_ _)); refine blk_far ?_ NB366_376.out _; (with_reducible repeat (first | refine blk_drewN ?_ _ | refine blk_drew ?_ | refine blk_alloc ?_ _)); refine blk_far ?_ NB366_376.out _; (with_reducible repeat (first | refine blk_drewN ?_ _ | refine blk_drew ?_ | refine blk_alloc ?_ _)); refine blk_far ?_ NB366_376.out _; (with_reducible repeat (first | refine blk_drewN ?_ _ | refine blk_drew ?_ | refine blk_alloc ?_ _)); exact BK366.out) Try.underlying75 rfl (by kernel_rfl)) rfl ?_
   exact ⟨_, _, by first | rfl | (simp [errW_none, errW_some] <;> rfl) | (simp [*, errW_none, errW_some] <;> rfl), by (with_reducible repeat (first | apply Kd.S_alloc | apply Kd.S_drewN | apply Kd.S_drew)); exact Kd.S_mono (Kd.S_far (p := ⟨gb366, 2, none⟩) (Kd.S_far (p := ⟨gb366, 1, none⟩) (Kd.S_far (p := ⟨gb366, 0, none⟩) (Kd.S_far (p := ⟨gb376, 2, none⟩) (Kd.S_far (p := ⟨gb376, 1, none⟩) (Kd.S_far (p := ⟨gb376, 0, none⟩) (Kd.S_types (Kd.S_types HO371.out BK376.out (by decide)) BK366.out (by decide)) (fun _ hk => hk.1.2) (.int .i64 t368)) (fun _ hk => hk.1.2) (.slice Ao18 t369.length co18)) (fun _ hk => hk.1.2) (.slice Ao19 t372.length co19)) (fun _ hk => hk.2) (.int .i64 t368)) (fun _ hk => hk.2) (.slice Ao18 t369.length co18)) (fun _ hk => hk.2) (.slice Ao19 t372.length co19)) (fun _ hk => hk.1.1), by (with_reducible repeat (first | apply Kd.R_alloc | apply Kd.R_drewN | apply Kd.R_drew)); exact Kd.R_mono (Kd.R_far (p := ⟨gb366, 2, none⟩) (Kd.R_far (p := ⟨gb366, 1, none⟩) (Kd.R_far (p := ⟨gb366, 0, none⟩) (Kd.R_far (p := ⟨gb376, 2, none⟩) (Kd.R_far (p := ⟨gb376, 1, none⟩) (Kd.R_far (p := ⟨gb376, 0, none⟩) (Kd.R_types (Kd.R_types HO374.out BK376.out (by decide)) BK366.out (by decide)) (fun _ hk => hk.1.2) (.int .i64 t368)) (fun _ hk => hk.1.2) (.slice Ao18 t369.length co18)) (fun _ hk => hk.1.2) (.slice Ao19 t372.length co19)) (fun _ hk => hk.2) (.int .i64 t368)) (fun _ hk => hk.2) (.slice Ao18 t369.length co18)) (fun _ hk => hk.2) (.slice Ao19 t372.length co19)) (fun _ hk => trivial), hb_⟩
  ·replace c6 := Bool.eq_false_iff.mpr c6
   subst c6
   have H1 : (some (0, ([] : List (List Int)), ([] : List Int), 5)) = some (r1, r2, r3, r4) := by rw [if_neg (show ¬ (false = true) by decide)] at H; exact H
   clear H
   have H := H1
   clear H1
   simp only [Option.some.injEq, Prod.mk.injEq] at H
   obtain ⟨rfl, rfl, rfl, rfl⟩ := H
   go_enter Try.func63, Try.ntmps63
   go_wp2_with (first | ((with_reducible refine gate_dst (N := 2) rfl ?_); refine box_event ?hg (N := 2) ?hd (cs := #[.slice A0_0 l0_0.length c0_0, .slice A0_1 l0_1.length c0_1]) (t := 29) ?hr ?_; (case hd => rfl); (case hg => rfl); (case hr => first | (go_simp; done) | (go_simp; rfl)); intro gb365 hg w21 hbox hb; have n0_ := Aside0.mk (bs_ hb); have n1_ := Aside0.mk (hbox); have n2_ := Aside0.mk ((by rw [hg]; exact bz_ : w.heap.size ≤ gb365)); have n3_ := Aside0.mk ((by rw [hg]; exact bz_ : w.heap.size ≤ gb365)); clear HB; have HB := n0_; have BK365 := n1_; have GW365 := n2_; have GE365 := n3_; clear n0_ n1_ n2_ n3_; clear hb hbox hg) | ((with_reducible refine gate_dst (N := 4) rfl ?_); refine box_event ?hg (N := 4) ?hd (cs := #[.int .i64 0, .slice none 0 0, .slice none 0 0]) (t := 75) ?hr ?_; (case hd => rfl); (case hg => rfl); (case hr => first | (go_simp; done) | (go_simp; rfl)); intro gb366 hg w22 hbox hb; have n0_ := Aside0.mk (bb_ BK365.out hb); have n1_ := Aside0.mk (bs_ hb); have n2_ := Aside0.mk (hbox); have n3_ := Aside0.mk ((by rw [hg]; exact bz_ : w.heap.size ≤ gb366)); have n4_ := Aside0.mk ((by rw [hg]; exact bz_ : w.heap.size ≤ gb366)); have n5_ := Aside0.mk ((by rw [hg]; exact lt_ BK365.out : gb365 ≠ gb366)); have n6_ := Aside0.mk ((by rw [hg]; exact gt_ BK365.out : gb366 ≠ gb365)); clear BK365; clear HB; have BK365 := n0_; have HB := n1_; have BK366 := n2_; have GW366 := n3_; have GE366 := n4_; have NB365_366 := n5_; have NB366_365 := n6_; clear n0_ n1_ n2_ n3_ n4_ n5_ n6_; clear hb hbox hg; have hnb23 := NB365_366.out; have hnc23 := NB366_365.out; have hcz24_0 : w22.cell? ⟨gb365, 0, none⟩ = some (.slice A0_0 l0_0.length c0_0) := (blk_cell BK365.out 0).trans rfl; have hcz24_1 : w22.cell? ⟨gb365, 1, none⟩ = some (.slice A0_1 l0_1.length c0_1) := (blk_cell BK365.out 1).trans rfl; have hfz24_0 := blk_frozen BK365.out 0; have hfz24_1 := blk_frozen BK365.out 1) | ((with_reducible refine gate_callee (f := 76) rfl ?_); refine goesL_ (some 11) rfl rfl Try.func76 (by kernel_rfl) rfl #[.agg #[.slice A0_0 l0_0.length c0_0, .slice A0_1 l0_1.length c0_1], .int .i64 a1] rfl (by (try simp only [List.map_toArray, List.map_cons, List.map_nil]); first | done | rfl | (simp only [List.length_drop, List.length_take]; rfl)) ?_; (with_reducible refine (impl_setCode.calls _ _ l0_0 _ _ l0_1 a1 t367 _ ?side1 ?side2 ?side3 ?side4 A3.out).mono ?_); (case side1 => exact cb_ HR0_0.out HB.out); (case side2 => exact HC0_0.out); (case side3 => exact cb_ HR0_1.out HB.out); (case side4 => exact HC0_1.out); rintro e w25 ⟨rfl, hb⟩; refine ⟨_, rfl, ?_⟩; have n0_ := Aside0.mk (bb_ BK365.out hb); have n1_ := Aside0.mk (bb_ BK366.out hb); have n2_ := Aside0.mk (bs_ hb); clear BK365; clear BK366; clear HB; have BK365 := n0_; have BK366 := n1_; have HB := n2_; clear n0_ n1_ n2_; (try clear hb); (try clear hb2); (try clear hk); (try clear hi); have hcz26_0 : w25.cell? ⟨gb365, 0, none⟩ = some (.slice A0_0 l0_0.length c0_0) := (blk_cell BK365.out 0).trans rfl; have hcz26_1 : w25.cell? ⟨gb365, 1, none⟩ = some (.slice A0_1 l0_1.length c0_1) := (blk_cell BK365.out 1).trans rfl; have hfz26_0 := blk_frozen BK365.out 0; have hfz26_1 := blk_frozen BK365.out 1) | ((with_reducible refine gate_callee (f := 101) rfl ?_); refine goesL_ (some 19) rfl rfl Try.func101 (by kernel_rfl) rfl #[.agg #[.slice A0_0 l0_0.length c0_0, .slice A0_1 l0_1.length c0_1], .int .i64 a1] rfl (by (try simp only [List.map_toArray, List.map_cons, List.map_nil]); first | done | rfl | (simp only [List.length_drop, List.length_take]; rfl)) ?_; (with_reducible refine (impl_Problem_pivot.calls k _ _ l0_0 _ _ l0_1 a1 t368 t369 t372 false _ ?side1 ?side2 ?side3 ?side4 A5.out).mono ?_); (case side1 => exact cb_ HR0_0.out HB.out); (case side2 => exact HC0_0.out); (case side3 => exact cb_ HR0_1.out HB.out); (case side4 => exact HC0_1.out); rintro e w27 ⟨v370, v373, rfl, ho0, ho1, hb⟩; refine ⟨_, rfl, ?_⟩; have n0_ := Aside0.mk (Kd.S_lower ho0 bz_); have n1_ := Aside0.mk (Kd.R_lower ho1 bz_); have n2_ := Aside0.mk (bb_ BK365.out hb); have n3_ := Aside0.mk (bb_ BK366.out hb); have n4_ := Aside0.mk (bs_ hb); clear BK365; clear BK366; clear HB; have HO371 := n0_; have HO374 := n1_; have BK365 := n2_; have BK366 := n3_; have HB := n4_; clear n0_ n1_ n2_ n3_ n4_; (try clear hb); (try clear hb2); (try clear hk); (try clear hi); (try clear ho0); (try clear ho1)) | ((with_reducible refine gate_dst (N := 7) rfl ?_); refine box_event ?hg (N := 7) ?hd (cs := #[.int .i64 0, .slice none 0 0, .slice none 0 0]) (t := 75) ?hr ?_; (case hd => rfl); (case hg => rfl); (case hr => first | (go_simp; done) | (go_simp; rfl)); intro gb376 hg w28 hbox hb; have n0_ := Aside0.mk (Kd.S_below (so_ HO371.out) hb); have n1_ := Aside0.mk (rb_ HO374.out hb); have n2_ := Aside0.mk (bb_ BK365.out hb); have n3_ := Aside0.mk (bb_ BK366.out hb); have n4_ := Aside0.mk (bs_ hb); have n5_ := Aside0.mk (hbox); have n6_ := Aside0.mk ((by rw [hg]; exact bz_ : w.heap.size ≤ gb376)); have n7_ := Aside0.mk ((by rw [hg]; exact bz_ : w.heap.size ≤ gb376)); have n8_ := Aside0.mk ((by rw [hg]; exact lt_ BK365.out : gb365 ≠ gb376)); have n9_ := Aside0.mk ((by rw [hg]; exact gt_ BK365.out : gb376 ≠ gb365)); have n10_ := Aside0.mk ((by rw [hg]; exact lt_ BK366.out : gb366 ≠ gb376)); have n11_ := Aside0.mk ((by rw [hg]; exact gt_ BK366.out : gb376 ≠ gb366)); clear HO371; clear HO374; clear BK365; clear BK366; clear HB; have HO371 := n0_; have HO374 := n1_; have BK365 := n2_; have BK366 := n3_; have HB := n4_; have BK376 := n5_; have GW376 := n6_; have GE376 := n7_; have NB365_376 := n8_; have NB376_365 := n9_; have NB366_376 := n10_; have NB376_366 := n11_; clear n0_ n1_ n2_ n3_ n4_ n5_ n6_ n7_ n8_ n9_ n10_ n11_; clear hb hbox hg; have hnb29 := NB376_365.out; have hnc29 := NB365_376.out; have hnb30 := NB376_366.out; have hnc30 := NB366_376.out; have hcz31_0 : w28.cell? ⟨gb376, 0, none⟩ = some (.int .i64 0) := (blk_cell BK376.out 0).trans rfl; have hcz31_1 : w28.cell? ⟨gb376, 1, none⟩ = some (.slice none 0 0) := (blk_cell BK376.out 1).trans rfl; have hcz31_2 : w28.cell? ⟨gb376, 2, none⟩ = some (.slice none 0 0) := (blk_cell BK376.out 2).trans rfl; have hfz31_0 := blk_frozen BK376.out 0; have hfz31_1 := blk_frozen BK376.out 1; have hfz31_2 := blk_frozen BK376.out 2; obtain ⟨Ao32, co32, eo32⟩ := Kd.S_slice HO371.out; subst eo32; obtain ⟨Ao33, co33, eo33⟩ := Kd.R_slice HO374.out; subst eo33; have hcz34_0 : w28.cell? ⟨gb366, 0, none⟩ = some (.int .i64 0) := (blk_cell BK366.out 0).trans rfl; have hcz34_1 : w28.cell? ⟨gb366, 1, none⟩ = some (.slice none 0 0) := (blk_cell BK366.out 1).trans rfl; have hcz34_2 : w28.cell? ⟨gb366, 2, none⟩ = some (.slice none 0 0) := (blk_cell BK366.out 2).trans rfl; have hfz34_0 := blk_frozen BK366.out 0; have hfz34_1 := blk_frozen BK366.out 1; have hfz34_2 := blk_frozen BK366.out 2))
   refine bodyPost_ret (results_ct rfl _ _ gb366 75 #[.int .i64 0, .slice none 0 0, .slice none 0 0] (0, 0) _ rfl (by (with_reducible repeat (first | refine blk_drewN ?_ _ | refine blk_drew ?_ | refine blk_alloc ?_ _)); refine blk_put (cs := #[.int .i64 0, .slice none 0 0, .slice none 0 0]) ?_ 2 _ rfl; (with_reducible repeat (first | refine blk_drewN ?_ _ | refine blk_drew ?_ | refine blk_alloc ?_ _)); refine blk_put (cs := #[.int .i64 0, .slice none 0 0, .slice none 0 0]) ?_ 1 _ rfl; (with_reducible repeat (first | refine blk_drewN ?_ _ | refine blk_drew ?_ | refine blk_alloc ?_ _)); refine blk_put (cs := #[.int .i64 0, .slice none 0 0, .slice none 0 0]) ?_ 0 _ rfl; (with_reducible repeat (first | refine blk_drewN ?_ _ | refine blk_drew ?_ | refine blk_alloc ?_ _)); refine blk_far ?_ NB366_376.out _; (with_reducible repeat (first | refine blk_drewN ?_ _ | refine blk_drew ?_ | refine blk_alloc ?_ _)); refine blk_far ?_ NB366_376.out _; (with_reducible repeat (first | refine blk_drewN ?_ _ | refine blk_drew ?_ | refine blk_alloc ?_ _)); refine blk_far ?_ NB366_376.out _; (with_reducible repeat (first | refine blk_drewN ?_ _ | refine blk_drew ?_ | refine blk_alloc ?_ _)); exact BK366.out) Try.underlying75 rfl (by kernel_rfl)) rfl ?_
   exact ⟨_, _, by first | rfl | (simp [errW_none, errW_some] <;> rfl) | (simp [*, errW_none, errW_some] <;> rfl), by first | exact Kd.S_nil _ _ _ _ _ | exact Kd.N_nil _ _ _ _ _ | exact Kd.V_nil _ _ _ _ _ | exact Kd.Q_nil _ _ _ _ _ | exact Kd.R_nil _ _ _ _ _, by first | exact Kd.R_nil _ _ _ _ _ | exact Kd.N_nil _ _ _ _ _ | exact Kd.V_nil _ _ _ _ _ | exact Kd.Q_nil _ _ _ _ _ | exact Kd.S_nil _ _ _ _ _, hb_⟩
 ·rw [if_neg c4] at H
  have c4b0 : (t367 == 0) = false := beq_eq_false_iff_ne.mpr c4
  have c4b1 : (t367 != 0) = true := bne_iff_ne.mpr c4
  simp only [Option.some.injEq, Prod.mk.injEq] at H
  obtain ⟨rfl, rfl, rfl, rfl⟩ := H
  go_enter Try.func63, Try.ntmps63
  go_wp2_with (first | ((with_reducible refine gate_dst (N := 2) rfl ?_); refine box_event ?hg (N := 2) ?hd (cs := #[.slice A0_0 l0_0.length c0_0, .slice A0_1 l0_1.length c0_1]) (t := 29) ?hr ?_; (case hd => rfl); (case hg => rfl); (case hr => first | (go_simp; done) | (go_simp; rfl)); intro gb365 hg w35 hbox hb; have n0_ := Aside0.mk (bs_ hb); have n1_ := Aside0.mk (hbox); have n2_ := Aside0.mk ((by rw [hg]; exact bz_ : w.heap.size ≤ gb365)); have n3_ := Aside0.mk ((by rw [hg]; exact bz_ : w.heap.size ≤ gb365)); clear HB; have HB := n0_; have BK365 := n1_; have GW365 := n2_; have GE365 := n3_; clear n0_ n1_ n2_ n3_; clear hb hbox hg) | ((with_reducible refine gate_dst (N := 4) rfl ?_); refine box_event ?hg (N := 4) ?hd (cs := #[.int .i64 0, .slice none 0 0, .slice none 0 0]) (t := 75) ?hr ?_; (case hd => rfl); (case hg => rfl); (case hr => first | (go_simp; done) | (go_simp; rfl)); intro gb366 hg w36 hbox hb; have n0_ := Aside0.mk (bb_ BK365.out hb); have n1_ := Aside0.mk (bs_ hb); have n2_ := Aside0.mk (hbox); have n3_ := Aside0.mk ((by rw [hg]; exact bz_ : w.heap.size ≤ gb366)); have n4_ := Aside0.mk ((by rw [hg]; exact bz_ : w.heap.size ≤ gb366)); have n5_ := Aside0.mk ((by rw [hg]; exact lt_ BK365.out : gb365 ≠ gb366)); have n6_ := Aside0.mk ((by rw [hg]; exact gt_ BK365.out : gb366 ≠ gb365)); clear BK365; clear HB; have BK365 := n0_; have HB := n1_; have BK366 := n2_; have GW366 := n3_; have GE366 := n4_; have NB365_366 := n5_; have NB366_365 := n6_; clear n0_ n1_ n2_ n3_ n4_ n5_ n6_; clear hb hbox hg; have hnb37 := NB365_366.out; have hnc37 := NB366_365.out; have hcz38_0 : w36.cell? ⟨gb365, 0, none⟩ = some (.slice A0_0 l0_0.length c0_0) := (blk_cell BK365.out 0).trans rfl; have hcz38_1 : w36.cell? ⟨gb365, 1, none⟩ = some (.slice A0_1 l0_1.length c0_1) := (blk_cell BK365.out 1).trans rfl; have hfz38_0 := blk_frozen BK365.out 0; have hfz38_1 := blk_frozen BK365.out 1) | ((with_reducible refine gate_callee (f := 76) rfl ?_); refine goesL_ (some 11) rfl rfl Try.func76 (by kernel_rfl) rfl #[.agg #[.slice A0_0 l0_0.length c0_0, .slice A0_1 l0_1.length c0_1], .int .i64 a1] rfl (by (try simp only [List.map_toArray, List.map_cons, List.map_nil]); first | done | rfl | (simp only [List.length_drop, List.length_take]; rfl)) ?_; (with_reducible refine (impl_setCode.calls _ _ l0_0 _ _ l0_1 a1 t367 _ ?side1 ?side2 ?side3 ?side4 A3.out).mono ?_); (case side1 => exact cb_ HR0_0.out HB.out); (case side2 => exact HC0_0.out); (case side3 => exact cb_ HR0_1.out HB.out); (case side4 => exact HC0_1.out); rintro e w39 ⟨rfl, hb⟩; refine ⟨_, rfl, ?_⟩; have n0_ := Aside0.mk (bb_ BK365.out hb); have n1_ := Aside0.mk (bb_ BK366.out hb); have n2_ := Aside0.mk (bs_ hb); clear BK365; clear BK366; clear HB; have BK365 := n0_; have BK366 := n1_; have HB := n2_; clear n0_ n1_ n2_; (try clear hb); (try clear hb2); (try clear hk); (try clear hi); have hcz40_0 : w39.cell? ⟨gb366, 0, none⟩ = some (.int .i64 0) := (blk_cell BK366.out 0).trans rfl; have hcz40_1 : w39.cell? ⟨gb366, 1, none⟩ = some (.slice none 0 0) := (blk_cell BK366.out 1).trans rfl; have hcz40_2 : w39.cell? ⟨gb366, 2, none⟩ = some (.slice none 0 0) := (blk_cell BK366.out 2).trans rfl; have hfz40_0 := blk_frozen BK366.out 0; have hfz40_1 := blk_frozen BK366.out 1; have hfz40_2 := blk_frozen BK366.out 2))
  refine bodyPost_ret (results_ct rfl _ _ gb366 75 #[.int .i64 0, .slice none 0 0, .slice none 0 0] (0, 0) _ rfl (by (with_reducible repeat (first | refine blk_drewN ?_ _ | refine blk_drew ?_ | refine blk_alloc ?_ _)); refine blk_put (cs := #[.int .i64 0, .slice none 0 0, .slice none 0 0]) ?_ 2 _ rfl; (with_reducible repeat (first | refine blk_drewN ?_ _ | refine blk_drew ?_ | refine blk_alloc ?_ _)); refine blk_put (cs := #[.int .i64 0, .slice none 0 0, .slice none 0 0]) ?_ 1 _ rfl; (with_reducible repeat (first | refine blk_drewN ?_ _ | refine blk_drew ?_ | refine blk_alloc ?_ _)); refine blk_put (cs := #[.int .i64 0, .slice none 0 0, .slice none 0 0]) ?_ 0 _ rfl; (with_reducible repeat (first | refine blk_drewN ?_ _ | refine blk_drew ?_ | refine blk_alloc ?_ _)); exact BK366.out) Try.underlying75 rfl (by kernel_rfl)) rfl ?_
  exact ⟨_, _, by first | rfl | (simp [errW_none, errW_some] <;> rfl) | (simp [*, errW_none, errW_some] <;> rfl), by first | exact Kd.S_nil _ _ _ _ _ | exact Kd.N_nil _ _ _ _ _ | exact Kd.V_nil _ _ _ _ _ | exact Kd.Q_nil _ _ _ _ _ | exact Kd.R_nil _ _ _ _ _, by first | exact Kd.R_nil _ _ _ _ _ | exact Kd.N_nil _ _ _ _ _ | exact Kd.V_nil _ _ _ _ _ | exact Kd.Q_nil _ _ _ _ _ | exact Kd.S_nil _ _ _ _ _, hb_⟩
end Go.Proofs.Ythdoilfjcgickaa.Pr
end
section
namespace Go.Proofs.Ythdoilfjcgickaa.Pr
open Go.RowKit Go.Proofs.YthdoilfjcgickaaW.PrintWords Go.Proofs.YthdoilfjcgickaaW.PrintLast Go.Proofs.YthdoilfjcgickaaW.PrintMore Go.Proofs.Ythdoilfjcgickaa.La Go.Proofs.Ythdoilfjcgickaa.Ma Go.Proofs.Ythdoilfjcgickaa.Hm Go.Proofs.Ythdoilfjcgickaa.Hd Go.Proofs.Ythdoilfjcgickaa.Hput Go.Proofs.Ythdoilfjcgickaa.Lw
def dvL (d : Int) (x : List Int) : List Int := x.map fun n => wrap64 (Int.tdiv n d)
def dvI (d : Int) (x : List Int) (i : Nat) : List Int := (List.range x.length).map fun r => if r < i then wrap64 (Int.tdiv (x.getD r 0) d) else x.getD r 0
theorem dvI_len (d : Int) (x : List Int) (i : Nat) : (dvI d x i).length = x.length := by simp [dvI]
theorem dvI_zero (d : Int) (x : List Int) : dvI d x 0 = x := by
 apply List.ext_getElem
 ·simp [dvI]
 ·intro r h1 h2; simp [dvI, h2]
theorem dvI_all (d : Int) (x : List Int) (i : Nat) (h : i = x.length) : dvI d x i = dvL d x := by
 apply List.ext_getElem
 ·simp [dvI, dvL]
 ·intro r h1 h2
  have hr : r < x.length := by simpa [dvI] using h1
  simp [dvI, dvL, hr, h]
theorem dvI_at (d : Int) (x : List Int) (i : Nat) (h : i < x.length) : (dvI d x i).getD i 0 = x.getD i 0 := by simp [dvI, h]
theorem dvI_set (d : Int) (x : List Int) (i : Nat) (h : i < x.length) : (dvI d x i).set i (wrap64 (Int.tdiv (x.getD i 0) d)) = dvI d x (i + 1) := by
 apply List.ext_getElem
 ·simp [dvI]
 ·intro r h1 h2
  rw [List.getElem_set]
  simp only [dvI, List.getElem_map, List.getElem_range]
  by_cases e : i = r
  ·subst e; rw [if_pos rfl, if_pos (by omega)]
  ·rw [if_neg e]
   by_cases c : r < i
   ·rw [if_pos c, if_pos (by omega)]
   ·rw [if_neg c, if_neg (by omega)]
def dvR (d : Int) (R : List (List Int)) (i c : Nat) : List (List Int) := (List.range R.length).map fun r => if r < i then dvL d (R.getD r []) else if r = i then dvI d (R.getD r []) c else R.getD r []
theorem dvR_len (d : Int) (R : List (List Int)) (i c : Nat) : (dvR d R i c).length = R.length := by simp [dvR]
theorem dvR_zero (d : Int) (R : List (List Int)) : dvR d R 0 0 = R := by
 apply List.ext_getElem
 ·simp [dvR]
 ·intro r h1 h2
  simp only [dvR, List.getElem_map, List.getElem_range, Nat.not_lt_zero, if_false, dvI_zero]
  split <;> simp [h2]
theorem dvR_next (d : Int) (R : List (List Int)) (i c : Nat) (h : c = (R.getD i []).length) : dvR d R i c = dvR d R (i + 1) 0 := by
 unfold dvR
 refine List.map_congr_left (fun r _ => ?_)
 by_cases e : r = i
 ·subst e; rw [if_neg (by omega), if_pos rfl, if_pos (by omega), dvI_all d _ c h]
 ·by_cases q : r < i
  ·rw [if_pos q, if_pos (by omega)]
  ·rw [if_neg q, if_neg e, if_neg (by omega)]
   by_cases z : r = i + 1
   ·rw [if_pos z, dvI_zero]
   ·rw [if_neg z]
theorem dvR_all (d : Int) (R : List (List Int)) (i : Nat) (h : i = R.length) : dvR d R i 0 = R.map (dvL d) := by
 apply List.ext_getElem
 ·simp [dvR]
 ·intro r h1 h2
  have hr : r < R.length := by simpa [dvR] using h1
  simp [dvR, hr, h]
theorem dvR_row (d : Int) (R : List (List Int)) (i c : Nat) (h : i < (dvR d R i c).length) : (dvR d R i c)[i] = dvI d (R.getD i []) c := by
 simp only [dvR, List.getElem_map, List.getElem_range]
 rw [if_neg (by omega)]
 simp
theorem dvR_set (d : Int) (R : List (List Int)) (i c : Nat) (h : i < R.length) (hc : c < (R.getD i []).length) : (dvR d R i c).set i ((dvI d (R.getD i []) c).set c (wrap64 (Int.tdiv ((R.getD i []).getD c 0) d))) = dvR d R i (c + 1) := by
 apply List.ext_getElem
 ·simp [dvR]
 ·intro r h1 h2
  rw [List.getElem_set]
  simp only [dvR, List.getElem_map, List.getElem_range]
  by_cases e : i = r
  ·subst e; rw [if_pos rfl, if_neg (by omega), if_pos rfl, dvI_set d _ c hc]
  ·rw [if_neg e]
   by_cases q : r < i
   ·rw [if_pos q, if_pos q]
   ·rw [if_neg q, if_neg q, if_neg (Ne.symm e), if_neg (Ne.symm e)]
theorem limited_calls (A0 : Option Addr) (c0 : Nat) (M : List (List Int)) (A1 : Option Addr) (c1 : Nat) (Q : List Int) (t : Bool) (w : World) (hr0 : Kd.C (Kd.slice 2 (Kd.int .i64)) w A0 M.length M) (hc0 : M.length ≤ c0) (hr1 : Kd.C (Kd.int .i64) w A1 Q.length Q) (hc1 : Q.length ≤ c1) (ht : impl_IsProblem.f M Q = some t) :
  Calls Try.prog 84 #[.agg #[.slice A0 M.length c0, .slice A1 Q.length c1]] w fun e w' => e = .returned (if t = true then .tuple #[.agg #[.slice A0 M.length c0, .slice A1 Q.length c1], .int .i64 0] else .tuple #[.agg #[.slice none 0 0, .slice none 0 0], .int .i64 3]) ∧ Below w.heap.size w w' := by
 have HR0 := Aside0.mk hr0
 have HC0 := Aside0.mk hc0
 have HR1 := Aside0.mk hr1
 have HC1 := Aside0.mk hc1
 have HT := Aside0.mk ht
 have HB := Aside0.mk (Below.refl w.heap.size w)
 clear hr0 hc0 hr1 hc1 ht
 go_enter Try.func84, Try.ntmps84
 go_wp2_with (first | ((with_reducible refine gate_dst (N := 1) rfl ?_); refine box_event ?hg (N := 1) ?hd (cs := #[.slice A0 M.length c0, .slice A1 Q.length c1]) (t := 29) ?hr ?_; (case hd => rfl); (case hg => rfl); (case hr => first | (go_simp; done) | (go_simp; rfl)); intro gb hg w6 hbox hb; replace HB := Aside0.mk (below_step HB.out hb); have hcz0 := cz_ (Aside0.mk hbox) 0; have hcz1 := cz_ (Aside0.mk hbox) 1; have BK := Aside0.mk hbox; clear hb hbox hg) | ((with_reducible refine gate_dst (N := 2) rfl ?_); refine box_event ?hg (N := 2) ?hd (cs := #[.slice none 0 0, .slice none 0 0]) (t := 29) ?hr ?_; (case hd => rfl); (case hg => rfl); (case hr => first | (go_simp; done) | (go_simp; rfl)); intro g4 hg w7 hbox hb; have G4 : Aside0 (w.heap.size ≤ g4) := ⟨by have := HB.out.size; omega⟩; have GN : Aside0 (gb < g4) := ⟨by have := blk_lt BK.out; omega⟩; clear hcz0 hcz1; replace HB := Aside0.mk (below_step HB.out hb); replace BK := Aside0.mk (blk_below BK.out hb); have B4 := Aside0.mk hbox; clear hb hbox hg; have hcz0 := cz_ BK 0; have hcz1 := cz_ BK 1))
 refine (impl_IsProblem.calls A0 c0 M A1 c1 Q t w7 (Kd.C_below HR0.out HB.out) HC0.out (Kd.C_below HR1.out HB.out) HC1.out HT.out).mono ?_
 rintro e w8 ⟨rfl, hb⟩
 clear hcz0 hcz1
 replace HB := Aside0.mk (below_step HB.out hb)
 replace BK := Aside0.mk (blk_below BK.out hb)
 replace B4 := Aside0.mk (blk_below B4.out hb)
 clear hb
 have hs0 := cz_ B4 0
 have hs1 := cz_ B4 1
 have hsf0 := blk_frozen B4.out 0
 have hsf1 := blk_frozen B4.out 1
 have hcz0 := cz_ BK 0
 have hcz1 := cz_ BK 1
 cases t with
 | true =>
  go_wp2_with (first | ((with_reducible refine gate_store (t := 29) (p := 2) rfl ?_); refine store_event (t := 29) (p := 2) (v := ?vo1) (w1 := ((w8.setCell ⟨g4, 0, none⟩ (.slice A0 M.length c0)).setCell ⟨g4, 1, none⟩ (.slice A1 Q.length c1))) ?hg ?ho ?hn ?hr ?_; (case ho => rfl); (case hg => rfl); (case hn => rfl); (case hr => first | (go_simp; done) | (go_simp; rfl)); intro w9 hw; have hF : Frm w8 w9 g4 (g4 + 1) := (by rw [hw]; exact (Frm.set _ _ _ _).trans ((Frm.set _ _ _ _))); have nb := Aside0.mk (show w9.heap[g4]? = some (.cells #[.slice A0 M.length c0, .slice A1 Q.length c1] 29 (0, 0)) from (by rw [hw]; exact (blk_put (blk_put B4.out 0 _ rfl) 1 _ rfl))); have nB := Aside0.mk (show Below w.heap.size w w9 from (by rw [hw]; exact below_set (below_set (HB.out) G4.out) G4.out)); replace BK := Aside0.mk ((hF.same _ (blk_lt BK.out) (.inl (by have := GN.out; omega))).trans BK.out); clear hw HB B4 hF; have HB := nB; have B4 := nb; clear nB nb))
  refine bodyPost_ret (results_list (rs := [.cell 2 29, .tmp 3]) rfl (by simp) (.cell g4 29 #[.slice A0 M.length c0, .slice A1 Q.length c1] (0, 0) _ rfl B4.out Try.underlying29 rfl (by kernel_rfl) (.tmp .nil))) rfl ?_
  exact ⟨rfl, HB.out⟩
 | false =>
  go_wp2_with (first | ((with_reducible refine gate_store (t := 29) (p := 2) rfl ?_); refine store_event (t := 29) (p := 2) (v := ?vo2) (w1 := ((w8.setCell ⟨g4, 0, none⟩ (.slice none 0 0)).setCell ⟨g4, 1, none⟩ (.slice none 0 0))) ?hg ?ho ?hn ?hr ?_; (case ho => rfl); (case hg => rfl); (case hn => rfl); (case hr => first | (go_simp; done) | (go_simp; rfl)); intro w9 hw; have hF : Frm w8 w9 g4 (g4 + 1) := (by rw [hw]; exact (Frm.set _ _ _ _).trans ((Frm.set _ _ _ _))); have nb := Aside0.mk (show w9.heap[g4]? = some (.cells #[.slice none 0 0, .slice none 0 0] 29 (0, 0)) from (by rw [hw]; exact (blk_put (blk_put B4.out 0 _ rfl) 1 _ rfl))); have nB := Aside0.mk (show Below w.heap.size w w9 from (by rw [hw]; exact below_set (below_set (HB.out) G4.out) G4.out)); replace BK := Aside0.mk ((hF.same _ (blk_lt BK.out) (.inl (by have := GN.out; omega))).trans BK.out); clear hw HB B4 hF; have HB := nB; have B4 := nb; clear nB nb))
  refine bodyPost_ret (results_list (rs := [.cell 2 29, .tmp 3]) rfl (by simp) (.cell g4 29 #[.slice none 0 0, .slice none 0 0] (0, 0) _ rfl B4.out Try.underlying29 rfl (by kernel_rfl) (.tmp .nil))) rfl ?_
  exact ⟨rfl, HB.out⟩
def impl_PivotedProblem.f (k : Nat) (l0_0 : List (List Int)) (l0_1 : List Int) (a1 : Int) : Option (List (List Int) × List Int × Int) :=
 (impl_pivotOf.f k l0_0 l0_1 a1).bind fun p => if p.2.2.2 = 0 then ((impl_Pivot_isWhole.f p.1 p.2.1 p.2.2.1).bind fun t => if t = true then (if 0 < p.2.1.length ∧ p.2.1.length ≤ 1000 ∧ p.2.2.1.length = p.2.1.length ∧ (p.2.1.all fun x => x.length == p.2.1.length) = true then
  ((impl_IsProblem.f (p.2.1.map (dvL p.1)) (dvL p.1 p.2.2.1)).bind fun u => some (if u = true then (p.2.1.map (dvL p.1), dvL p.1 p.2.2.1, 0) else ([], [], 3))) else none) else some ([], [], 5)) else some ([], [], p.2.2.2)
theorem impl_PivotedProblem.mono : ∀ a0 a1 a2 k, LeO (impl_PivotedProblem.f k a0 a1 a2) (impl_PivotedProblem.f (k + 1) a0 a1 a2) := by
 intro a0 a1 a2 k
 unfold impl_PivotedProblem.f
 exact LeO.bind (impl_pivotOf.mono _ _ _ _) (fun _ => LeO.refl _)
theorem impl_PivotedProblem.calls (k : Nat) (A0_0 : Option Addr) (c0_0 : Nat) (l0_0 : List (List Int)) (A0_1 : Option Addr) (c0_1 : Nat) (l0_1 : List Int) (a1 : Int) (r1 : List (List Int)) (r2 : List Int) (r3 : Int) (w : World) (hr0_0 : Kd.C (Kd.slice 2 (Kd.int .i64)) w A0_0 l0_0.length l0_0) (hc0_0 : l0_0.length ≤ c0_0) (hr0_1 : Kd.C (Kd.int .i64) w A0_1 l0_1.length l0_1) (hc0_1 : l0_1.length ≤ c0_1) (h : impl_PivotedProblem.f k l0_0 l0_1 a1 = some (r1, r2, r3)) :
  Calls Try.prog 41 #[.agg #[.slice A0_0 l0_0.length c0_0, .slice A0_1 l0_1.length c0_1], .int .i64 a1] w fun e w' => ∃ v0_ v1_ : Value, e = .returned (.tuple #[.agg #[v0_, v1_], .int .i64 r3]) ∧ Kd.S (Kd.slice 2 (Kd.int .i64)) 23 w' w.heap.size (fun k_ => some k_ ≠ (v1_ : Value).ownBlock) v0_ r1 ∧ Kd.R (Kd.int .i64) 2 w' w.heap.size (fun _ => True) v1_ r2 ∧ Below w.heap.size w w' := by
 unfold impl_PivotedProblem.f at h
 obtain ⟨⟨den, R, S, code⟩, h1, h⟩ := Option.bind_eq_some_iff.mp h
 dsimp only at h
 have HR0 := Aside0.mk hr0_0
 have HC0 := Aside0.mk hc0_0
 have HR1 := Aside0.mk hr0_1
 have HC1 := Aside0.mk hc0_1
 have H1 := Aside0.mk h1
 have H := Aside0.mk h
 have HB := Aside0.mk (Below.refl w.heap.size w)
 clear hr0_0 hc0_0 hr0_1 hc0_1 h h1
 go_enter Try.func41, Try.ntmps41
 go_wp2_with (first | ((with_reducible refine gate_dst (N := 2) rfl ?_); refine box_event ?hg (N := 2) ?hd (cs := #[.slice A0_0 l0_0.length c0_0, .slice A0_1 l0_1.length c0_1]) (t := 29) ?hr ?_; (case hd => rfl); (case hg => rfl); (case hr => first | (go_simp; done) | (go_simp; rfl)); intro gb hg w6 hbox hb; replace HB := Aside0.mk (below_step HB.out hb); have BK := Aside0.mk hbox; clear hb hbox hg) | ((with_reducible refine gate_dst (N := 4) rfl ?_); refine box_event ?hg (N := 4) ?hd (cs := #[.slice none 0 0, .slice none 0 0]) (t := 29) ?hr ?_; (case hd => rfl); (case hg => rfl); (case hr => first | (go_simp; done) | (go_simp; rfl)); intro g4 hg w7 hbox hb; have G4 : Aside0 (w.heap.size ≤ g4) := ⟨by have := HB.out.size; omega⟩; have GN : Aside0 (gb < g4) := ⟨by have := blk_lt BK.out; omega⟩; replace HB := Aside0.mk (below_step HB.out hb); replace BK := Aside0.mk (blk_below BK.out hb); have B4 := Aside0.mk hbox; clear hb hbox hg; have hcz0 := cz_ BK 0; have hcz1 := cz_ BK 1))
 refine (impl_pivotOf.calls k A0_0 c0_0 l0_0 A0_1 c0_1 l0_1 a1 den R S code w7 (Kd.C_below HR0.out HB.out) HC0.out (Kd.C_below HR1.out HB.out) HC1.out H1.out).mono ?_
 rintro e w8 ⟨v1, v2, rfl, hS, hR, hb⟩
 have HP := Aside0.mk (UP.of (w0 := w) hS hR HB.out.size)
 have G4L : Aside0 (g4 < w7.heap.size) := ⟨blk_lt B4.out⟩
 have HLH : Aside0 (w7.heap.size ≤ w8.heap.size) := ⟨hb.size⟩
 clear hcz0 hcz1 hS hR H1
 replace HB := Aside0.mk (below_step HB.out hb)
 replace BK := Aside0.mk (blk_below BK.out hb)
 replace B4 := Aside0.mk (blk_below B4.out hb)
 clear hb
 obtain ⟨As, cs, At, ct, rfl, rfl⟩ := HP.out.slices
 have HHI : Aside0 (w8.heap.size ≤ w8.heap.size) := ⟨Nat.le_refl _⟩
 generalize hlo : w7.heap.size = lo at *
 generalize hhi : w8.heap.size = hi at HP HLH HHI
 have HHI2 : Aside0 (hi = w8.heap.size) := ⟨hhi.symm⟩
 clear hlo hhi HHI
 by_cases c0 : code = 0
 ·have h := H.out
  rw [if_pos c0] at h
  obtain ⟨t, h2, h⟩ := Option.bind_eq_some_iff.mp h
  have H2 := Aside0.mk h2
  have H := Aside0.mk h
  have hden : Aside0 (den ≠ 0) := ⟨by unfold impl_Pivot_isWhole.f at h2; split at h2; (rename_i hq; exact hq.1); cases h2⟩
  subst c0
  clear h h2
  go_wp2_with (first | ((with_reducible refine gate_dst (N := 6) rfl ?_); refine box_event ?hg (N := 6) ?hd (cs := #[.int .i64 0, .slice none 0 0, .slice none 0 0]) (t := 75) ?hr ?_; (case hd => rfl); (case hg => rfl); (case hr => first | (go_simp; done) | (go_simp; rfl)); intro g6 hg w9 hbox hb; have G6 : Aside0 (w.heap.size ≤ g6) := ⟨by have := HB.out.size; omega⟩; have G6H : Aside0 (hi ≤ g6) := ⟨by have := HHI2.out; omega⟩; replace HB := Aside0.mk (below_step HB.out hb); replace BK := Aside0.mk (blk_below BK.out hb); replace B4 := Aside0.mk (blk_below B4.out hb); replace HP := Aside0.mk (HP.out.mvB (Frm.below hb)); have B6 := Aside0.mk hbox; clear hb hbox hg; have hs0 := cz_ B6 0; have hs1 := cz_ B6 1; have hs2 := cz_ B6 2; have hsf0 := blk_frozen B6.out 0; have hsf1 := blk_frozen B6.out 1; have hsf2 := blk_frozen B6.out 2) | ((with_reducible refine gate_store (t := 75) (p := 6) rfl ?_); refine store_event (t := 75) (p := 6) (v := ?vo3) (w1 := (((w9.setCell ⟨g6, 0, none⟩ (.int .i64 den)).setCell ⟨g6, 1, none⟩ (.slice As R.length cs)).setCell ⟨g6, 2, none⟩ (.slice At S.length ct))) ?hg ?ho ?hn ?hr ?_; (case ho => rfl); (case hg => rfl); (case hn => rfl); (case hr => first | (go_simp; done) | (go_simp; rfl)); intro w10 hw; have hF : Frm w9 w10 g6 (g6 + 1) := (by rw [hw]; exact (Frm.set _ _ _ _).trans ((Frm.set _ _ _ _).trans ((Frm.set _ _ _ _)))); have nb := Aside0.mk (show w10.heap[g6]? = some (.cells #[.int .i64 den, .slice As R.length cs, .slice At S.length ct] 75 (0, 0)) from (by rw [hw]; exact (blk_put (blk_put (blk_put B6.out 0 _ rfl) 1 _ rfl) 2 _ rfl))); have nB := Aside0.mk (show Below w.heap.size w w10 from (by rw [hw]; exact below_set (below_set (below_set (HB.out) G6.out) G6.out) G6.out)); replace BK := Aside0.mk ((hF.same _ (blk_lt BK.out) (.inl (by have := G6H.out; have := HLH.out; have := G4L.out; have := GN.out; omega))).trans BK.out); replace B4 := Aside0.mk ((hF.same _ (blk_lt B4.out) (.inl (by have := G6H.out; have := HLH.out; have := G4L.out; have := GN.out; omega))).trans B4.out); replace HP := Aside0.mk (HP.out.mv hF (.inl G6H.out)); clear hw HB B6 hF; have HB := nB; have B6 := nb; clear nB nb; clear hs0 hs1 hs2 hsf0 hsf1 hsf2; have hs0 := cz_ B6 0; have hs1 := cz_ B6 1; have hs2 := cz_ B6 2; have hf0 := cz_ B4 0; have hf1 := cz_ B4 1; have hff0 := blk_frozen B4.out 0; have hff1 := blk_frozen B4.out 1))
  refine (impl_Pivot_isWhole.calls den As cs R At ct S t w10 (HP.out.C0) HP.out.cap0 (HP.out.C1) HP.out.cap1 H2.out).mono ?_
  rintro e w11 ⟨rfl, hb⟩
  clear hs0 hs1 hs2 hf0 hf1 hff0 hff1
  replace HB := Aside0.mk (below_step HB.out hb)
  replace BK := Aside0.mk (blk_below BK.out hb)
  replace B4 := Aside0.mk (blk_below B4.out hb)
  replace HP := Aside0.mk (HP.out.mvB (Frm.below hb))
  replace B6 := Aside0.mk (blk_below B6.out hb)
  clear hb H2
  have hs0 := cz_ B6 0
  have hs1 := cz_ B6 1
  have hs2 := cz_ B6 2
  have hf0 := cz_ B4 0
  have hf1 := cz_ B4 1
  have hff0 := blk_frozen B4.out 0
  have hff1 := blk_frozen B4.out 1
  cases t with
  | false =>
   have h := H.out
   rw [if_neg (by simp)] at h
   cases h
   go_wp2_with (first | ((with_reducible refine gate_store (t := 29) (p := 4) rfl ?_); refine store_event (t := 29) (p := 4) (v := ?vo4) (w1 := ((w11.setCell ⟨g4, 0, none⟩ (.slice none 0 0)).setCell ⟨g4, 1, none⟩ (.slice none 0 0))) ?hg ?ho ?hn ?hr ?_; (case ho => rfl); (case hg => rfl); (case hn => rfl); (case hr => first | (go_simp; done) | (go_simp; rfl)); intro w12 hw; have hF : Frm w11 w12 g4 (g4 + 1) := (by rw [hw]; exact (Frm.set _ _ _ _).trans ((Frm.set _ _ _ _))); have nb := Aside0.mk (show w12.heap[g4]? = some (.cells #[.slice none 0 0, .slice none 0 0] 29 (0, 0)) from (by rw [hw]; exact (blk_put (blk_put B4.out 0 _ rfl) 1 _ rfl))); have nB := Aside0.mk (show Below w.heap.size w w12 from (by rw [hw]; exact below_set (below_set (HB.out) G4.out) G4.out)); replace BK := Aside0.mk ((hF.same _ (blk_lt BK.out) (.inl (by have := GN.out; omega))).trans BK.out); replace HP := Aside0.mk (HP.out.mv hF (.inr (by have := G4L.out; omega))); replace B6 := Aside0.mk ((hF.same _ (blk_lt B6.out) (.inr (by have := HLH.out; have := G6H.out; have := G4L.out; omega))).trans B6.out); clear hw HB B4 hF; have HB := nB; have B4 := nb; clear nB nb))
   refine bodyPost_ret (results_list (rs := [.cell 4 29, .tmp 5]) rfl (by simp) (.cell g4 29 #[.slice none 0 0, .slice none 0 0] (0, 0) _ rfl B4.out Try.underlying29 rfl (by kernel_rfl) (.tmp .nil))) rfl ?_
   exact ⟨_, _, rfl, Kd.S_nil _ _ _ _ _, Kd.R_nil _ _ _ _ _, HB.out⟩
  | true =>
   have h := H.out
   rw [if_pos rfl] at h
   by_cases cq : 0 < R.length ∧ R.length ≤ 1000 ∧ S.length = R.length ∧ (R.all fun x => x.length == R.length) = true
   ·rw [if_pos cq] at h
    obtain ⟨u, h3, h⟩ := Option.bind_eq_some_iff.mp h
    obtain ⟨q1, q2, q3, q4⟩ := cq
    have HROW : Aside0 (∀ i, i < R.length → (R.getD i []).length = R.length) := ⟨fun i hi => by
     have := List.all_eq_true.1 q4 (R.getD i []) (by rw [List.getD_eq_getElem?_getD, List.getElem?_eq_getElem hi]; exact List.getElem_mem hi)
     simpa using this⟩
    have H3 := Aside0.mk h3
    have H := Aside0.mk (Option.some.inj h)
    have HS := Aside0.mk q3
    have HPO := Aside0.mk q1
    have HN := Aside0.mk q2
    rw [q3] at HP B6 hs2 ⊢
    obtain ⟨g, cap, e1, _⟩ := Kd.S_form HP.out.m q1
    injection e1 with e1 e3 e2
    clear e3
    subst e1; subst e2
    obtain ⟨gs, caps, e1, _⟩ := Kd.R_form HP.out.q (by have := HS.out; have := HPO.out; omega)
    injection e1 with e1 e3 e2
    clear e3
    subst e1; subst e2
    have GLO : Aside0 (lo ≤ gs ∧ gs < hi) := ⟨HP.out.q.1 gs rfl⟩
    clear h h3 q1 q3 q4
    go_wp2_with (first | ((with_reducible refine gate_dst (N := 8) rfl ?_); refine box_event ?hg (N := 8) ?hd (cs := #[.slice none 0 0, .slice none 0 0]) (t := 29) ?hr ?_; (case hd => rfl); (case hg => rfl); (case hr => first | (go_simp; done) | (go_simp; rfl)); intro g8 hg w12 hbox hb; have G8 : Aside0 (w.heap.size ≤ g8) := ⟨by have := HB.out.size; omega⟩; have G8H : Aside0 (hi ≤ g8) := ⟨by have := G6H.out; have := blk_lt B6.out; omega⟩; have G86 : Aside0 (g6 < g8) := ⟨by have := blk_lt B6.out; omega⟩; clear hs0 hs1 hs2 hf0 hf1 hff0 hff1; replace HB := Aside0.mk (below_step HB.out hb); replace BK := Aside0.mk (blk_below BK.out hb); replace B4 := Aside0.mk (blk_below B4.out hb); replace HP := Aside0.mk (HP.out.mvB (Frm.below hb)); replace B6 := Aside0.mk (blk_below B6.out hb); have B8 := Aside0.mk hbox; clear hb hbox hg; have hs0 := cz_ B8 0; have hs1 := cz_ B8 1; have hsf0 := blk_frozen B8.out 0; have hsf1 := blk_frozen B8.out 1) | ((with_reducible refine gate_store (t := 29) (p := 8) rfl ?_); refine store_event (t := 29) (p := 8) (v := ?vo5) (w1 := ((w12.setCell ⟨g8, 0, none⟩ (.slice (some ⟨g, 0, none⟩) R.length cs)).setCell ⟨g8, 1, none⟩ (.slice (some ⟨gs, 0, none⟩) R.length ct))) ?hg ?ho ?hn ?hr ?_; (case ho => rfl); (case hg => rfl); (case hn => rfl); (case hr => first | (go_simp; done) | (go_simp; rfl)); intro w13 hw; have hF : Frm w12 w13 g8 (g8 + 1) := (by rw [hw]; exact (Frm.set _ _ _ _).trans ((Frm.set _ _ _ _))); have nb := Aside0.mk (show w13.heap[g8]? = some (.cells #[.slice (some ⟨g, 0, none⟩) R.length cs, .slice (some ⟨gs, 0, none⟩) R.length ct] 29 (0, 0)) from (by rw [hw]; exact (blk_put (blk_put B8.out 0 _ rfl) 1 _ rfl))); have nB := Aside0.mk (show Below w.heap.size w w13 from (by rw [hw]; exact below_set (below_set (HB.out) G8.out) G8.out)); replace BK := Aside0.mk ((hF.same _ (blk_lt BK.out) (.inl (by have := G8H.out; have := HLH.out; have := G4L.out; have := GN.out; omega))).trans BK.out); replace B4 := Aside0.mk ((hF.same _ (blk_lt B4.out) (.inl (by have := G8H.out; have := HLH.out; have := G4L.out; have := GN.out; omega))).trans B4.out); replace HP := Aside0.mk (HP.out.mv hF (.inl G8H.out)); replace B6 := Aside0.mk ((hF.same _ (blk_lt B6.out) (.inl G86.out)).trans B6.out); clear hw HB B8 hF; have HB := nB; have B8 := nb; clear nB nb; clear hs0 hs1 hsf0 hsf1; have hs0 := cz_ B8 0; have hs1 := cz_ B8 1))
    have HW8 := Aside0.mk HS.out
    go_loopg [34] R.length (fun gg v34 wr => ∃ i : Nat, i ≤ R.length ∧ R.length - i ≤ gg ∧ v34 = .int .i64 (i : Int) ∧ Aside0 (Below w.heap.size w wr) ∧ Aside0 (wr.heap[g4]? = some (.cells #[.slice none 0 0, .slice none 0 0] 29 (0, 0))) ∧ Aside0 (wr.heap[g6]? = some (.cells #[.int .i64 den, .slice (some ⟨g, 0, none⟩) R.length cs, .slice (some ⟨gs, 0, none⟩) R.length ct] 75 (0, 0))) ∧ Aside0 (wr.heap[g8]? = some (.cells #[.slice (some ⟨g, 0, none⟩) R.length cs, .slice (some ⟨gs, 0, none⟩) R.length ct] 29 (0, 0))) ∧ Aside0 (UP w wr lo hi (.slice (some ⟨g, 0, none⟩) R.length cs) (.slice (some ⟨gs, 0, none⟩) R.length ct) (dvR den R i 0) (dvI den S i)))
    case atStart => exact ⟨0, Nat.zero_le _, by omega, rfl, HB, B4, B6, B8, ⟨by rw [dvR_zero, dvI_zero]; exact HP.out⟩⟩
    case round =>
     clear HB B4 B6 B8 HP hs0 hs1 BK
     obtain ⟨i, hi_, hgg, rfl, HB, B4, B6, B8, HP⟩ := hrel
     have HG := Aside0.mk hgg
     by_cases hin : i < R.length
     ·have HIN := Aside0.mk hin
      have hiz : (i : Int) < (R.length : Int) := by omega
      have h0i : (0 : Int) ≤ (i : Int) := by omega
      have hi1 : IntKind.i64.wrap ((i : Int) + 1) = ((i + 1 : Nat) : Int) := by rw [IntWalk.i64_in _ (by have := HN.out; omega)]; rfl
      have HI1 := Aside0.mk hi1
      have hrow := dvR_row den R i 0 (by rw [dvR_len]; exact hin)
      have hpr := put_row (w0 := w) (g := g) (cap := cs) HB.out (l := dvR den R i 0) (by rw [dvR_len]; exact HP.out.m) i (by rw [dvR_len]; exact hin) 0 (by rw [hrow, dvI_len, HROW.out i hin]; omega)
      rw [hrow, dvI_len, HROW.out i hin] at hpr
      obtain ⟨b, cj, hcellg, _, _, _⟩ := hpr
      have HCG := Aside0.mk hcellg
      have hat := Kd.R_celln 0 HP.out.q (i : Int) (by omega) hiz
      rw [Int.toNat_natCast] at hat
      have hatv : wr.cell? ⟨gs, i, none⟩ = some (.int .i64 (S.getD i 0)) := by
       have e := hat.1
       rw [show rdOf 0 (dvI den S i) (i : Int) = S.getD i 0 from by unfold rdOf; rw [Int.toNat_natCast]; exact dvI_at den S i (by rw [HS.out]; exact hin)] at e
       exact e
      have hatf := hat.2
      have hd0 : ¬ den = 0 := hden.out
      have hput := Kd.R_putg HP.out.q (i : Int) (wrap64 (Int.tdiv (S.getD i 0) den))
      rw [Int.toNat_natCast, dvI_set den S i (by rw [HS.out]; exact hin)] at hput
      have HQ2 := Aside0.mk hput.1
      generalize hxs : S.getD i 0 = xs at hatv HQ2
      have hc80 := cz_ B8 0
      have hc81 := cz_ B8 1
      have hc60 := cz_ B6 0
      clear hrow hin hgg hi_ hat hput hxs
      go_wp2
      have hcd0 : wr.drew.cell? ⟨g8, 1, none⟩ = some (.slice (some ⟨gs, 0, none⟩) R.length ct) := hc81
      have hcd1 : wr.drew.cell? ⟨gs, i, none⟩ = some (.int .i64 xs) := hatv
      have hcd2 : wr.drew.cell? ⟨g6, 0, none⟩ = some (.int .i64 den) := hc60
      have hcd3 : wr.drew.frozen? ⟨gs, i, none⟩ = false := hatf
      refine st_ (n := 10) (S := fun w' => w'.cell? ⟨g8, 1, none⟩ = some (.slice (some ⟨gs, 0, none⟩) R.length ct) ∧ w'.cell? ⟨gs, i, none⟩ = some (.int .i64 xs) ∧ w'.cell? ⟨g6, 0, none⟩ = some (.int .i64 den)) (ds := [9]) ⟨hcd0, hcd1, hcd2⟩ (fun hHeld => ?_)
      refine pu_ 0 39 ?_; refine tk_ 1 40 ?_; refine pu_ 2 41 ?_; refine pu_ 3 42 ?_; refine tk_ 4 43 ?_; refine pu_ 5 44 ?_; refine tk_ 6 45 ?_; refine pu_ 7 46 ?_; refine pu_ 8 47 ?_
      refine la_ 9 none (fun K hK => ?_)
      refine skip_ (w1 := ?_) (by rfl) rfl ?_ ?_
      rotate_left
      ·go_simp
       rfl
      refine hK.out _ _ ?_
      clear hK K
      refine done_ (by kernel_rfl) ?_
      have hw : wr.drew.setCell ⟨gs, i, none⟩ (.int .i64 (wrap64 (Int.tdiv xs den))) = (wr.setCell ⟨gs, i, none⟩ (.int .i64 (wrap64 (Int.tdiv xs den)))).drew := rfl
      have hF : Frm wr (wr.setCell ⟨gs, i, none⟩ (.int .i64 (wrap64 (Int.tdiv xs den)))) gs (gs + 1) := Frm.set _ _ _ _
      have nP : Aside0 (UP w (wr.setCell ⟨gs, i, none⟩ (.int .i64 (wrap64 (Int.tdiv xs den)))) lo hi (.slice (some ⟨g, 0, none⟩) R.length cs) (.slice (some ⟨gs, 0, none⟩) R.length ct) (dvR den R i 0) (dvI den S (i + 1))) := ⟨⟨Kd.S_step HP.out.m (fun k hk hlt => hF.same k hlt (by have := hk.2; simp [Value.ownBlock] at this; omega)), HQ2.out⟩⟩
      have nB : Aside0 (Below w.heap.size w (wr.setCell ⟨gs, i, none⟩ (.int .i64 (wrap64 (Int.tdiv xs den))))) := ⟨below_set HB.out (Kd.R_base HP.out.q gs rfl)⟩
      have n4 := Aside0.mk ((hF.same g4 (blk_lt B4.out) (.inl (by have := G4L.out; have := GLO.out.1; omega))).trans B4.out)
      have n6 := Aside0.mk ((hF.same g6 (blk_lt B6.out) (.inr (by have := G6H.out; have := GLO.out.2; omega))).trans B6.out)
      have n8 := Aside0.mk ((hF.same g8 (blk_lt B8.out) (.inr (by have := G8H.out; have := GLO.out.2; omega))).trans B8.out)
      have nC : Aside0 ((wr.setCell ⟨gs, i, none⟩ (.int .i64 (wrap64 (Int.tdiv xs den)))).cell? ⟨g, i, none⟩ = some (.slice (some ⟨b, 0, none⟩) R.length cj)) := ⟨by rw [cset_other (by intro q; have := congrArg Addr.block q; exact ((Kd.S_R HP.out.m).1 g rfl).2 (by simp [Value.ownBlock]; exact this.symm))]; exact HCG.out⟩
      clear HP HB B4 B6 B8 HCG HQ2 hcd0 hcd1 hcd2 hcd3 hc80 hc81 hc60 hatv hatf hcellg hF hHeld
      have HP := nP
      have HB := nB
      have B4 := n4
      have B6 := n6
      have B8 := n8
      have HCG := nC
      clear nP nB n4 n6 n8 nC
      generalize wr.drew.setCell ⟨gs, i, none⟩ (.int .i64 (wrap64 (Int.tdiv xs den))) = w20 at hw
      generalize wr.setCell ⟨gs, i, none⟩ (.int .i64 (wrap64 (Int.tdiv xs den))) = w19 at *
      subst hw
      replace HP := Aside0.mk (HP.out.mvB (Frm.below (below_drew (Below.refl _ _))))
      replace HB := Aside0.mk (below_drew HB.out)
      replace B4 := Aside0.mk (blk_drew B4.out)
      replace B6 := Aside0.mk (blk_drew B6.out)
      replace B8 := Aside0.mk (blk_drew B8.out)
      replace HCG : Aside0 (w19.drew.cell? ⟨g, i, none⟩ = some (.slice (some ⟨b, 0, none⟩) R.length cj)) := ⟨HCG.out⟩
      generalize w19.drew = w20 at *
      go_wp2
      go_loopg [50] R.length (fun gg v50 w30 => ∃ c : Nat, c ≤ R.length ∧ R.length - c ≤ gg ∧ v50 = .int .i64 (c : Int) ∧ Aside0 (Below w.heap.size w w30) ∧ Aside0 (w30.heap[g4]? = some (.cells #[.slice none 0 0, .slice none 0 0] 29 (0, 0))) ∧ Aside0 (w30.heap[g6]? = some (.cells #[.int .i64 den, .slice (some ⟨g, 0, none⟩) R.length cs, .slice (some ⟨gs, 0, none⟩) R.length ct] 75 (0, 0))) ∧ Aside0 (w30.heap[g8]? = some (.cells #[.slice (some ⟨g, 0, none⟩) R.length cs, .slice (some ⟨gs, 0, none⟩) R.length ct] 29 (0, 0))) ∧ Aside0 (UP w w30 lo hi (.slice (some ⟨g, 0, none⟩) R.length cs) (.slice (some ⟨gs, 0, none⟩) R.length ct) (dvR den R i c) (dvI den S (i + 1))) ∧ Aside0 (w30.cell? ⟨g, i, none⟩ = some (.slice (some ⟨b, 0, none⟩) R.length cj)))
      case atStart => exact ⟨0, Nat.zero_le _, by omega, rfl, HB, B4, B6, B8, HP, HCG⟩
      case round =>
       clear HB B4 B6 B8 HP HCG
       obtain ⟨c, hc_, hgg, rfl, HB, B4, B6, B8, HP, HCG⟩ := hrel
       have HG2 := Aside0.mk hgg
       by_cases hcn : c < R.length
       ·have HCN := Aside0.mk hcn
        have hcz : (c : Int) < (R.length : Int) := by omega
        have h0c : (0 : Int) ≤ (c : Int) := by omega
        have hc1 : IntKind.i64.wrap ((c : Int) + 1) = ((c + 1 : Nat) : Int) := by rw [IntWalk.i64_in _ (by have := HN.out; omega)]; rfl
        have HC1' := Aside0.mk hc1
        have hrow := dvR_row den R i c (by rw [dvR_len]; exact HIN.out)
        have hpr := put_row (w0 := w) (g := g) (cap := cs) HB.out (l := dvR den R i c) (by rw [dvR_len]; exact HP.out.m) i (by rw [dvR_len]; exact HIN.out) c (by rw [hrow, dvI_len, HROW.out i HIN.out]; exact hcn)
        rw [hrow, dvI_len, HROW.out i HIN.out, dvR_len] at hpr
        obtain ⟨b', cj', hcell', hold, hfr, hset⟩ := hpr
        have ebb : b' = b := by
         have := hcell'.symm.trans HCG.out
         injection this with this
         injection this with this
         injection this with this
         exact congrArg Addr.block this
        subst ebb
        have hset2 := hset (wrap64 (Int.tdiv ((R.getD i []).getD c 0) den))
        rw [dvR_set den R i c HIN.out (by rw [HROW.out i HIN.out]; exact hcn)] at hset2
        have HSET := Aside0.mk hset2
        rw [dvI_at den _ c (by rw [HROW.out i HIN.out]; exact hcn)] at hold
        generalize (R.getD i []).getD c 0 = xv at hold HSET
        have hd0 : ¬ den = 0 := hden.out
        have hc60 := cz_ B6 0
        clear hset hset2 hrow hcn hc_ hgg hcell'
        go_wp2
        have hcd1 : wr.drew.cell? ⟨b', c, none⟩ = some (.int .i64 xv) := hold
        have hcd2 : wr.drew.cell? ⟨g6, 0, none⟩ = some (.int .i64 den) := hc60
        have hcd3 : wr.drew.frozen? ⟨b', c, none⟩ = false := hfr
        refine st_ (n := 9) (S := fun w' => w'.cell? ⟨b', c, none⟩ = some (.int .i64 xv) ∧ w'.cell? ⟨g6, 0, none⟩ = some (.int .i64 den)) (ds := [8]) ⟨hcd1, hcd2⟩ (fun hHeld => ?_)
        refine pu_ 0 53 ?_; refine pu_ 1 54 ?_; refine pu_ 2 55 ?_; refine tk_ 3 56 ?_; refine pu_ 4 57 ?_; refine tk_ 5 58 ?_; refine pu_ 6 59 ?_; refine pu_ 7 60 ?_
        refine la_ 8 none (fun K hK => ?_)
        refine skip_ (w1 := ?_) (by rfl) rfl ?_ ?_
        rotate_left
        ·go_simp
         rfl
        refine hK.out _ _ ?_
        clear hK K
        refine done_ (by kernel_rfl) ?_
        have hw : wr.drew.setCell ⟨b', c, none⟩ (.int .i64 (wrap64 (Int.tdiv xv den))) = (wr.setCell ⟨b', c, none⟩ (.int .i64 (wrap64 (Int.tdiv xv den)))).drew := rfl
        have hok := HSET.out.2.2
        have hF : Frm wr (wr.setCell ⟨b', c, none⟩ (.int .i64 (wrap64 (Int.tdiv xv den)))) lo hi := Frm.kept hok (fun k hk => hk.1)
        have nP : Aside0 (UP w (wr.setCell ⟨b', c, none⟩ (.int .i64 (wrap64 (Int.tdiv xv den)))) lo hi (.slice (some ⟨g, 0, none⟩) R.length cs) (.slice (some ⟨gs, 0, none⟩) R.length ct) (dvR den R i (c + 1)) (dvI den S (i + 1))) := ⟨⟨HSET.out.1, Kd.R_step (ok := fun k => (lo ≤ k ∧ k < hi) ∧ k = gs) (Kd.R_mono (Kd.R_tight rfl HP.out.q) (fun k hk => by have e : k = gs := (by simpa [Value.ownBlock] using hk); subst e; exact ⟨GLO.out, rfl⟩)) (fun k hk hlt => hok.2 k hlt (fun q => q.2 (by rw [hk.2]; rfl))) |> fun z => Kd.R_mono z (fun k hk => hk.1)⟩⟩
        have nB := Aside0.mk HSET.out.2.1
        have n4 := Aside0.mk ((hF.same g4 (blk_lt B4.out) (.inl G4L.out)).trans B4.out)
        have n6 := Aside0.mk ((hF.same g6 (blk_lt B6.out) (.inr G6H.out)).trans B6.out)
        have n8 := Aside0.mk ((hF.same g8 (blk_lt B8.out) (.inr G8H.out)).trans B8.out)
        have nC : Aside0 ((wr.setCell ⟨b', c, none⟩ (.int .i64 (wrap64 (Int.tdiv xv den)))).cell? ⟨g, i, none⟩ = some (.slice (some ⟨b', 0, none⟩) R.length cj)) := by
         by_cases q : g = b'
         ·subst q
          exact ⟨by
           obtain ⟨_, _, e1, _, _, cells, hc⟩ := Kd.S_form HP.out.m (by rw [dvR_len]; exact HPO.out)
           injection e1 with e1 _ _
           injection e1 with e1
           have e1 := congrArg Addr.block e1
           exfalso
           have hx := HCG.out
           by_cases q2 : i = c
           ·rw [q2] at hx; rw [hold] at hx; cases hx
           ·obtain ⟨bb, cc, hcc, hold2, _, _⟩ := put_row (w0 := w) (g := g) (cap := cs) HB.out (l := dvR den R i c) (by rw [dvR_len]; exact HP.out.m) i (by rw [dvR_len]; exact HIN.out) i (by rw [dvR_row den R i c (by rw [dvR_len]; exact HIN.out), dvI_len, HROW.out i HIN.out]; exact HIN.out)
            have := hcc.symm.trans hx
            injection this with this
            injection this with this
            injection this with this
            have hbb : bb = g := congrArg Addr.block this
            rw [hbb] at hold2
            rw [hx] at hold2
            cases hold2⟩
         ·exact ⟨by rw [cset_other (by intro e; exact q (congrArg Addr.block e).symm)]; exact HCG.out⟩
        clear HP HB B4 B6 B8 HCG HSET hcd1 hcd2 hcd3 hc60 hold hfr hok hF hHeld
        have HP := nP
        have HB := nB
        have B4 := n4
        have B6 := n6
        have B8 := n8
        have HCG := nC
        clear nP nB n4 n6 n8 nC
        generalize wr.drew.setCell ⟨b', c, none⟩ (.int .i64 (wrap64 (Int.tdiv xv den))) = w40 at hw
        generalize wr.setCell ⟨b', c, none⟩ (.int .i64 (wrap64 (Int.tdiv xv den))) = w39 at *
        subst hw
        replace HP := Aside0.mk (HP.out.mvB (Frm.below (below_drew (Below.refl _ _))))
        replace HB := Aside0.mk (below_drew HB.out)
        replace B4 := Aside0.mk (blk_drew B4.out)
        replace B6 := Aside0.mk (blk_drew B6.out)
        replace B8 := Aside0.mk (blk_drew B8.out)
        replace HCG : Aside0 (w39.drew.cell? ⟨g, i, none⟩ = some (.slice (some ⟨b', 0, none⟩) R.length cj)) := ⟨HCG.out⟩
        go_wp2
        go_roundg (R.length - (c + 1))
        case measure => have := HG2.out; have := HCN.out; omega
        case rel => exact ⟨c + 1, by have := HCN.out; omega, by omega, by first | rfl | (rw [HC1'.out]) | (simp [HC1'.out]), HB, B4, B6, B8, HP, HCG⟩
       ·have hcz : ¬ (c : Int) < (R.length : Int) := by omega
        have hce : c = R.length := by omega
        have HP2 : Aside0 (UP w wr lo hi (.slice (some ⟨g, 0, none⟩) R.length cs) (.slice (some ⟨gs, 0, none⟩) R.length ct) (dvR den R (i + 1) 0) (dvI den S (i + 1))) := ⟨by rw [← dvR_next den R i c (by rw [HROW.out i HIN.out]; exact hce)]; exact HP.out⟩
        clear HP
        go_wp2
        go_roundg (R.length - (i + 1))
        case measure => have := HG.out; have := HIN.out; omega
        case rel => exact ⟨i + 1, by have := HIN.out; omega, by omega, by first | rfl | (rw [HI1.out]) | (simp [HI1.out]), HB, B4, B6, B8, HP2⟩
     ·have hiz : ¬ (i : Int) < (R.length : Int) := by omega
      obtain rfl : i = R.length := by omega
      rw [dvR_all den R R.length rfl, dvI_all den S R.length HS.out.symm] at HP
      have hs0 := cz_ B8 0
      have hs1 := cz_ B8 1
      go_wp2_with fail
      have hm1 : (R.map (dvL den)).length = R.length := by simp
      have hm2 : (dvL den S).length = R.length := by simp [dvL, HS.out]
      have hlim := limited_calls (some ⟨g, 0, none⟩) cs (R.map (dvL den)) (some ⟨gs, 0, none⟩) ct (dvL den S) u wr HP.out.C0 HP.out.cap0 HP.out.C1 HP.out.cap1 H3.out
      rw [hm1, hm2] at hlim
      refine hlim.mono ?_
      rintro e w50 ⟨rfl, hb⟩
      clear hlim hs0 hs1
      replace HB := Aside0.mk (below_step HB.out hb)
      replace B4 := Aside0.mk (blk_below B4.out hb)
      replace HP := Aside0.mk (HP.out.mvB (Frm.below hb))
      clear hb B6 B8
      have hf0 := cz_ B4 0
      have hf1 := cz_ B4 1
      have hff0 := blk_frozen B4.out 0
      have hff1 := blk_frozen B4.out 1
      cases u with
      | true =>
       have h := H.out
       rw [if_pos rfl] at h
       cases h
       rw [if_pos rfl]
       go_wp2_with (first | ((with_reducible refine gate_store (t := 29) (p := 4) rfl ?_); refine store_event (t := 29) (p := 4) (v := ?vo6) (w1 := ((w50.setCell ⟨g4, 0, none⟩ (.slice (some ⟨g, 0, none⟩) R.length cs)).setCell ⟨g4, 1, none⟩ (.slice (some ⟨gs, 0, none⟩) R.length ct))) ?hg ?ho ?hn ?hr ?_; (case ho => rfl); (case hg => rfl); (case hn => rfl); (case hr => first | (go_simp; done) | (go_simp; rfl)); intro w51 hw; have hF : Frm w50 w51 g4 (g4 + 1) := (by rw [hw]; exact (Frm.set _ _ _ _).trans ((Frm.set _ _ _ _))); have nb := Aside0.mk (show w51.heap[g4]? = some (.cells #[.slice (some ⟨g, 0, none⟩) R.length cs, .slice (some ⟨gs, 0, none⟩) R.length ct] 29 (0, 0)) from (by rw [hw]; exact (blk_put (blk_put B4.out 0 _ rfl) 1 _ rfl))); have nB := Aside0.mk (show Below w.heap.size w w51 from (by rw [hw]; exact below_set (below_set (HB.out) G4.out) G4.out)); replace HP := Aside0.mk (HP.out.mv hF (.inr (by have := G4L.out; omega))); clear hw HB B4 hF; have HB := nB; have B4 := nb; clear nB nb))
       refine bodyPost_ret (results_list (rs := [.cell 4 29, .tmp 5]) rfl (by simp) (.cell g4 29 #[.slice (some ⟨g, 0, none⟩) R.length cs, .slice (some ⟨gs, 0, none⟩) R.length ct] (0, 0) _ rfl B4.out Try.underlying29 rfl (by kernel_rfl) (.tmp .nil))) rfl ?_
       exact ⟨_, _, rfl, Kd.S_mono HP.out.m (fun k hk => hk.2), Kd.R_mono HP.out.q (fun _ _ => trivial), HB.out⟩
      | false =>
       have h := H.out
       rw [if_neg (by simp)] at h
       cases h
       rw [if_neg (by simp)]
       go_wp2_with (first | ((with_reducible refine gate_store (t := 29) (p := 4) rfl ?_); refine store_event (t := 29) (p := 4) (v := ?vo7) (w1 := ((w50.setCell ⟨g4, 0, none⟩ (.slice none 0 0)).setCell ⟨g4, 1, none⟩ (.slice none 0 0))) ?hg ?ho ?hn ?hr ?_; (case ho => rfl); (case hg => rfl); (case hn => rfl); (case hr => first | (go_simp; done) | (go_simp; rfl)); intro w51 hw; have hF : Frm w50 w51 g4 (g4 + 1) := (by rw [hw]; exact (Frm.set _ _ _ _).trans ((Frm.set _ _ _ _))); have nb := Aside0.mk (show w51.heap[g4]? = some (.cells #[.slice none 0 0, .slice none 0 0] 29 (0, 0)) from (by rw [hw]; exact (blk_put (blk_put B4.out 0 _ rfl) 1 _ rfl))); have nB := Aside0.mk (show Below w.heap.size w w51 from (by rw [hw]; exact below_set (below_set (HB.out) G4.out) G4.out)); replace HP := Aside0.mk (HP.out.mv hF (.inr (by have := G4L.out; omega))); clear hw HB B4 hF; have HB := nB; have B4 := nb; clear nB nb))
       refine bodyPost_ret (results_list (rs := [.cell 4 29, .tmp 5]) rfl (by simp) (.cell g4 29 #[.slice none 0 0, .slice none 0 0] (0, 0) _ rfl B4.out Try.underlying29 rfl (by kernel_rfl) (.tmp .nil))) rfl ?_
       exact ⟨_, _, rfl, Kd.S_nil _ _ _ _ _, Kd.R_nil _ _ _ _ _, HB.out⟩
   ·rw [if_neg cq] at h
    cases h
 ·have h := H.out
  rw [if_neg c0] at h
  cases h
  have hc0 : (r3 == 0) = false := by simpa using c0
  have hc1 : (r3 != 0) = true := by simpa using c0
  go_wp2_with (first | ((with_reducible refine gate_dst (N := 6) rfl ?_); refine box_event ?hg (N := 6) ?hd (cs := #[.int .i64 0, .slice none 0 0, .slice none 0 0]) (t := 75) ?hr ?_; (case hd => rfl); (case hg => rfl); (case hr => first | (go_simp; done) | (go_simp; rfl)); intro g6 hg w9 hbox hb; have G6 : Aside0 (w.heap.size ≤ g6) := ⟨by have := HB.out.size; omega⟩; have G6H : Aside0 (hi ≤ g6) := ⟨by have := HHI2.out; omega⟩; replace HB := Aside0.mk (below_step HB.out hb); replace BK := Aside0.mk (blk_below BK.out hb); replace B4 := Aside0.mk (blk_below B4.out hb); replace HP := Aside0.mk (HP.out.mvB (Frm.below hb)); have B6 := Aside0.mk hbox; clear hb hbox hg; have hs0 := cz_ B6 0; have hs1 := cz_ B6 1; have hs2 := cz_ B6 2; have hsf0 := blk_frozen B6.out 0; have hsf1 := blk_frozen B6.out 1; have hsf2 := blk_frozen B6.out 2) | ((with_reducible refine gate_store (t := 75) (p := 6) rfl ?_); refine store_event (t := 75) (p := 6) (v := ?vo8) (w1 := (((w9.setCell ⟨g6, 0, none⟩ (.int .i64 den)).setCell ⟨g6, 1, none⟩ (.slice As R.length cs)).setCell ⟨g6, 2, none⟩ (.slice At S.length ct))) ?hg ?ho ?hn ?hr ?_; (case ho => rfl); (case hg => rfl); (case hn => rfl); (case hr => first | (go_simp; done) | (go_simp; rfl)); intro w10 hw; have hF : Frm w9 w10 g6 (g6 + 1) := (by rw [hw]; exact (Frm.set _ _ _ _).trans ((Frm.set _ _ _ _).trans ((Frm.set _ _ _ _)))); have nb := Aside0.mk (show w10.heap[g6]? = some (.cells #[.int .i64 den, .slice As R.length cs, .slice At S.length ct] 75 (0, 0)) from (by rw [hw]; exact (blk_put (blk_put (blk_put B6.out 0 _ rfl) 1 _ rfl) 2 _ rfl))); have nB := Aside0.mk (show Below w.heap.size w w10 from (by rw [hw]; exact below_set (below_set (below_set (HB.out) G6.out) G6.out) G6.out)); replace BK := Aside0.mk ((hF.same _ (blk_lt BK.out) (.inl (by have := G6H.out; have := HLH.out; have := G4L.out; have := GN.out; omega))).trans BK.out); replace B4 := Aside0.mk ((hF.same _ (blk_lt B4.out) (.inl (by have := G6H.out; have := HLH.out; have := G4L.out; have := GN.out; omega))).trans B4.out); replace HP := Aside0.mk (HP.out.mv hF (.inl G6H.out)); clear hw HB B6 hF; have HB := nB; have B6 := nb; clear nB nb; clear hs0 hs1 hs2 hsf0 hsf1 hsf2; have hf0 := cz_ B4 0; have hf1 := cz_ B4 1; have hff0 := blk_frozen B4.out 0; have hff1 := blk_frozen B4.out 1) | ((with_reducible refine gate_store (t := 29) (p := 4) rfl ?_); refine store_event (t := 29) (p := 4) (v := ?vo9) (w1 := ((w10.setCell ⟨g4, 0, none⟩ (.slice none 0 0)).setCell ⟨g4, 1, none⟩ (.slice none 0 0))) ?hg ?ho ?hn ?hr ?_; (case ho => rfl); (case hg => rfl); (case hn => rfl); (case hr => first | (go_simp; done) | (go_simp; rfl)); intro w12 hw; have hF : Frm w10 w12 g4 (g4 + 1) := (by rw [hw]; exact (Frm.set _ _ _ _).trans ((Frm.set _ _ _ _))); have nb := Aside0.mk (show w12.heap[g4]? = some (.cells #[.slice none 0 0, .slice none 0 0] 29 (0, 0)) from (by rw [hw]; exact (blk_put (blk_put B4.out 0 _ rfl) 1 _ rfl))); have nB := Aside0.mk (show Below w.heap.size w w12 from (by rw [hw]; exact below_set (below_set (HB.out) G4.out) G4.out)); replace BK := Aside0.mk ((hF.same _ (blk_lt BK.out) (.inl (by have := GN.out; omega))).trans BK.out); replace HP := Aside0.mk (HP.out.mv hF (.inr (by have := G4L.out; omega))); replace B6 := Aside0.mk ((hF.same _ (blk_lt B6.out) (.inr (by have := HLH.out; have := G6H.out; have := G4L.out; omega))).trans B6.out); clear hw HB B4 hF; have HB := nB; have B4 := nb; clear nB nb))
  refine bodyPost_ret (results_list (rs := [.cell 4 29, .tmp 5]) rfl (by simp) (.cell g4 29 #[.slice none 0 0, .slice none 0 0] (0, 0) _ rfl B4.out Try.underlying29 rfl (by kernel_rfl) (.tmp .nil))) rfl ?_
  exact ⟨_, _, rfl, Kd.S_nil _ _ _ _ _, Kd.R_nil _ _ _ _ _, HB.out⟩
end Go.Proofs.Ythdoilfjcgickaa.Pr
end
section
namespace Go.Proofs.Ythdoilfjcgickaa.Pr
open Go.RowKit Go.Proofs.YthdoilfjcgickaaW.PrintWords Go.Proofs.YthdoilfjcgickaaW.PrintLast Go.Proofs.YthdoilfjcgickaaW.PrintMore
attribute [local go_sem] max2_int min2_int max_two min_two max_three min_three max_four min_four
mutual
def spec_l01Matrix.j0 : Nat → List (List Int) → Int → Bool → Option (Bool)
 | 0, _, _, _ => none
 | k + 1, x0, x3, x13 => if x13 = true then (some false) else (spec_l01Matrix.l0 k x0 x3 0)
def spec_l01Matrix.l0 : Nat → List (List Int) → Int → Int → Option (Bool)
 | 0, _, _, _ => none
 | k + 1, x0, x3, x4 => if x4 < x3 then (if 0 ≤ x4 then (if x4 < (x0.length : Int) then (if ((rd_L1 x0 x4).length : Int) = x3 then (spec_l01Matrix.l1 k x0 x3 x4 0) else (some false)) else (none)) else (none)) else (some true)
def spec_l01Matrix.l1 : Nat → List (List Int) → Int → Int → Int → Option (Bool)
 | 0, _, _, _, _ => none
 | k + 1, x0, x3, x4, x5 => if x5 < x3 then (if 0 ≤ x4 then (if x4 < (x0.length : Int) then (if 0 ≤ x5 then (if x5 < ((rd_L1 x0 x4).length : Int) then ((spec_l01In.f (rd (rd_L1 x0 x4) x5) (-20) 20).bind fun t166 => (if t166 = true then (spec_l01Matrix.l1 k x0 x3 x4 (wrap64 (x5 + 1))) else (some false))) else (none)) else (none)) else (none)) else (none)) else (spec_l01Matrix.l0 k x0 x3 (wrap64 (x4 + 1)))
end
def spec_l01Matrix.f (k : Nat) (l0 : List (List Int)) : Option (Bool) := if (l0.length : Int) < 1 then (spec_l01Matrix.j0 k l0 (l0.length : Int) true) else (spec_l01Matrix.j0 k l0 (l0.length : Int) (decide ((l0.length : Int) > 5)))
theorem spec_l01Matrix.mono_l : ∀ k, (∀ y0 y1 y2, LeO (spec_l01Matrix.j0 k y0 y1 y2) (spec_l01Matrix.j0 (k + 1) y0 y1 y2)) ∧ (∀ y0 y1 y2, LeO (spec_l01Matrix.l0 k y0 y1 y2) (spec_l01Matrix.l0 (k + 1) y0 y1 y2)) ∧ (∀ y0 y1 y2 y3, LeO (spec_l01Matrix.l1 k y0 y1 y2 y3) (spec_l01Matrix.l1 (k + 1) y0 y1 y2 y3))
 | 0 => ⟨fun _ _ _ r h => by simp [spec_l01Matrix.j0] at h, fun _ _ _ r h => by simp [spec_l01Matrix.l0] at h, fun _ _ _ _ r h => by simp [spec_l01Matrix.l1] at h⟩
 | k + 1 => by
  obtain ⟨ih0, ih1, ih2⟩ := spec_l01Matrix.mono_l k
  refine ⟨?_, ?_, ?_⟩
  ·intro y0 y1 y2
   unfold spec_l01Matrix.j0
   repeat' first
   | (with_reducible exact ih0 _ _ _)
   | (with_reducible exact ih1 _ _ _)
   | (with_reducible exact ih2 _ _ _ _)
   | (with_reducible exact LeO.refl _)
   | (with_reducible exact LeO.none _)
   | (with_reducible refine LeO.ite ?_ ?_)
   | (with_reducible refine LeO.bind ?_ (fun _ => ?_))
   | exact ih0 _ _ _
   | exact ih1 _ _ _
   | exact ih2 _ _ _ _
   | exact LeO.none _
   | refine LeO.ite ?_ ?_
   | refine LeO.bind ?_ (fun _ => ?_)
  ·intro y0 y1 y2
   unfold spec_l01Matrix.l0
   repeat' first
   | (with_reducible exact ih0 _ _ _)
   | (with_reducible exact ih1 _ _ _)
   | (with_reducible exact ih2 _ _ _ _)
   | (with_reducible exact LeO.refl _)
   | (with_reducible exact LeO.none _)
   | (with_reducible refine LeO.ite ?_ ?_)
   | (with_reducible refine LeO.bind ?_ (fun _ => ?_))
   | exact ih0 _ _ _
   | exact ih1 _ _ _
   | exact ih2 _ _ _ _
   | exact LeO.none _
   | refine LeO.ite ?_ ?_
   | refine LeO.bind ?_ (fun _ => ?_)
  ·intro y0 y1 y2 y3
   unfold spec_l01Matrix.l1
   repeat' first
   | (with_reducible exact ih0 _ _ _)
   | (with_reducible exact ih1 _ _ _)
   | (with_reducible exact ih2 _ _ _ _)
   | (with_reducible exact LeO.refl _)
   | (with_reducible exact LeO.none _)
   | (with_reducible refine LeO.ite ?_ ?_)
   | (with_reducible refine LeO.bind ?_ (fun _ => ?_))
   | exact ih0 _ _ _
   | exact ih1 _ _ _
   | exact ih2 _ _ _ _
   | exact LeO.none _
   | refine LeO.ite ?_ ?_
   | refine LeO.bind ?_ (fun _ => ?_)
theorem spec_l01Matrix.mono : ∀ a0 k, LeO (spec_l01Matrix.f k a0) (spec_l01Matrix.f (k + 1) a0) := by
 intro a0 k
 obtain ⟨ih0, ih1, ih2⟩ := spec_l01Matrix.mono_l k
 unfold spec_l01Matrix.f
 repeat' first
   | (with_reducible exact ih0 _ _ _)
   | (with_reducible exact ih1 _ _ _)
   | (with_reducible exact ih2 _ _ _ _)
   | (with_reducible exact LeO.refl _)
   | (with_reducible exact LeO.none _)
   | (with_reducible refine LeO.ite ?_ ?_)
   | (with_reducible refine LeO.bind ?_ (fun _ => ?_))
   | exact ih0 _ _ _
   | exact ih1 _ _ _
   | exact ih2 _ _ _ _
   | exact LeO.none _
   | refine LeO.ite ?_ ?_
   | refine LeO.bind ?_ (fun _ => ?_)
theorem spec_l01Matrix.calls (k : Nat) (A0 : Option Addr) (c0 : Nat) (l0 : List (List Int)) (r : Bool) (w : World) (hr0 : Kd.C (Kd.slice 2 (Kd.int .i64)) w A0 l0.length l0) (hc0 : l0.length ≤ c0) (h : spec_l01Matrix.f k l0 = some r) :
  Calls Try.prog 102 #[.slice A0 l0.length c0] w fun e w' => e = .returned (.bool r) ∧ Drawn0 w w' := by
 have HR0 := Aside0.mk hr0
 have HC0 := Aside0.mk hc0
 clear hr0 hc0
 have H : (if (l0.length : Int) < 1 then (spec_l01Matrix.j0 k l0 (l0.length : Int) true) else (spec_l01Matrix.j0 k l0 (l0.length : Int) (decide ((l0.length : Int) > 5)))) = some r := h
 clear h
 have HC2 := Aside0.mk H
 clear H
 go_enter Try.func102, Try.ntmps102
 go_upto_region 2 with (fail)
 go_cut [13] (fun v13 wc => ∃ (kq : Nat) (x13_1 : Bool), v13 = .bool x13_1 ∧ Aside0 (spec_l01Matrix.j0 kq l0 (l0.length : Int) x13_1 = some r) ∧ Aside0 (kq ≤ k) ∧ Drawn0 w wc)
 case first =>
  have H := HC2.out
  clear HC2
  by_cases c3 : (l0.length : Int) < 1
  ·rw [if_pos c3] at H
   have c3b0 : decide ((l0.length : Int) < 1) = true := decide_eq_true c3
   have c3b1 : decide (l0.length < 1) = true := decide_eq_true (by omega)
   clear c3
   (first | rw [c3b0] | (simp only [i64_w, i32_w]; rw [c3b0]) | skip)
   have H' := Aside0.mk H
   clear H
   go_wp2
   go_meet
   case rel => exact ⟨_, (true), (by first | rfl | (simp; done) | (simp [*]; done)), H', ⟨by first | omega | exact Nat.le_refl _⟩, by repeat (first | exact Drawn0.refl _ | apply Drawn0.step)⟩
  ·rw [if_neg c3] at H
   have c3b0 : decide ((l0.length : Int) < 1) = false := decide_eq_false c3
   have c3b1 : decide (l0.length < 1) = false := decide_eq_false (by omega)
   clear c3
   (first | rw [c3b0] | (simp only [i64_w, i32_w]; rw [c3b0]) | skip)
   have H' := Aside0.mk H
   clear H
   go_wp2
   go_meet
   case rel => exact ⟨_, (decide ((l0.length : Int) > 5)), (by first | rfl | (simp; done) | (simp [*]; done)), H', ⟨by first | omega | exact Nat.le_refl _⟩, by repeat (first | exact Drawn0.refl _ | apply Drawn0.step)⟩
 case rest =>
  clear HC2
  try clear c1
  try clear p2
  try clear c3
  try clear c3b0
  try clear c3b1
  obtain ⟨kq, x13_1, rfl, HA, HJ1, ⟨mc1, rfl⟩⟩ := hcut
  cases kq with
  | zero => exact absurd HA.out (by simp [spec_l01Matrix.j0])
  | succ kj1 =>
   have H := HA.out
   clear HA
   simp only [spec_l01Matrix.j0] at H
   by_cases c4 : x13_1 = true
   ·subst c4
    have H1 : (some false) = some r := by rw [if_pos rfl] at H; exact H
    clear H
    have H := H1
    clear H1
    obtain rfl := Option.some.inj H
    go_wp2
    go_ret
    exact ⟨by first | rfl | (simp; done) | (simp [*]; done), by repeat (first | exact Drawn0.refl _ | apply Drawn0.step)⟩
   ·replace c4 := Bool.eq_false_iff.mpr c4
    subst c4
    have H1 : (spec_l01Matrix.l0 kj1 l0 (l0.length : Int) 0) = some r := by rw [if_neg (show ¬ (false = true) by decide)] at H; exact H
    clear H
    have H := H1
    clear H1
    have H' := Aside0.mk H
    clear H
    go_wp2
    go_loopg [4] kj1 (fun kq v4 w' => ∃ (x4_2 : Int), v4 = .int .i64 x4_2 ∧ Aside0 (spec_l01Matrix.l0 kq l0 (l0.length : Int) x4_2 = some r) ∧ Aside0 (kq ≤ kj1) ∧ Drawn0 w w')
    case atStart => exact ⟨(0), (by first | rfl | (simp; done) | (simp [*]; done)), H', ⟨Nat.le_refl _⟩, by repeat (first | exact Drawn0.refl _ | apply Drawn0.step)⟩
    case round =>
     clear H'
     try clear c1
     try clear p2
     try clear c3
     try clear c3b0
     try clear c3b1
     try clear c4
     try clear p2
     obtain ⟨x4_2, rfl, HA, HK2, ⟨m2, rfl⟩⟩ := hrel
     cases gk with
     | zero => exact absurd HA.out (by simp [spec_l01Matrix.l0])
     | succ k2 =>
      have H := HA.out
      clear HA
      simp only [spec_l01Matrix.l0] at H
      by_cases c5 : x4_2 < (l0.length : Int)
      ·rw [if_pos c5] at H
       have c5b0 : decide (x4_2 < (l0.length : Int)) = true := decide_eq_true c5
       clear c5
       by_cases c6 : 0 ≤ x4_2
       ·rw [if_pos c6] at H
        have c6b0 : decide (0 ≤ x4_2) = true := decide_eq_true c6
        clear c6
        by_cases c7 : x4_2 < (l0.length : Int)
        ·rw [if_pos c7] at H
         have c7b0 : decide (x4_2 < (l0.length : Int)) = true := decide_eq_true c7
         clear c7
         by_cases c8 : ((rd_L1 l0 x4_2).length : Int) = (l0.length : Int)
         ·rw [if_pos c8] at H
          have c8b0 : (((rd_L1 l0 x4_2).length : Int) == (l0.length : Int)) = true := beq_iff_eq.mpr c8
          have c8b1 : (((rd_L1 l0 x4_2).length : Int) != (l0.length : Int)) = false := bne_eq_false_iff_eq.mpr c8
          have c8b2 : ((rd_L1 l0 x4_2).length == l0.length) = true := by first | simpa using c8 | (simp at c8 ⊢; omega)
          clear c8
          have H' := Aside0.mk H
          clear H
          have p163 : 0 ≤ (x4_2 : Int) := of_decide_eq_true (by first | (with_reducible assumption) | assumption)
          have q163 : x4_2 < (l0.length : Int) := of_decide_eq_true (by first | (with_reducible assumption) | assumption)
          obtain ⟨ad163, A163_0, c163_0, e163, hx163_0, hl163_0, hi163_0⟩ := at_L1 HR0.out x4_2 p163 q163
          cases e163
          have HR163_0 := Aside0.mk hi163_0
          have HC163_0 := Aside0.mk hl163_0
          clear hi163_0 hl163_0
          replace p163 := eq_true p163
          replace q163 := eq_true q163
          go_wp2
          go_loopg [5] k2 (fun kq v5 w' => ∃ (x5_3 : Int), v5 = .int .i64 x5_3 ∧ Aside0 (spec_l01Matrix.l1 kq l0 (l0.length : Int) x4_2 x5_3 = some r) ∧ Aside0 (kq ≤ k2) ∧ Drawn0 w w')
          case atStart => exact ⟨(0), (by first | rfl | (simp; done) | (simp [*]; done)), H', ⟨Nat.le_refl _⟩, by repeat (first | exact Drawn0.refl _ | apply Drawn0.step)⟩
          case round =>
           clear H'
           try clear c1
           try clear p1
           try clear q1
           try clear hx1
           try clear p2
           try clear c3
           try clear c3b0
           try clear c3b1
           try clear c4
           try clear c5
           try clear c5b0
           try clear c6
           try clear c6b0
           try clear c7
           try clear c7b0
           try clear c8
           try clear c8b0
           try clear c8b1
           try clear c8b2
           try clear hx163_0
           try clear p163
           try clear p2
           try clear q163
           obtain ⟨x5_3, rfl, HA, HK3, ⟨m3, rfl⟩⟩ := hrel
           cases gk with
           | zero => exact absurd HA.out (by simp [spec_l01Matrix.l1])
           | succ k3 =>
            have H := HA.out
            clear HA
            simp only [spec_l01Matrix.l1] at H
            by_cases c9 : x5_3 < (l0.length : Int)
            ·rw [if_pos c9] at H
             have c9b0 : decide (x5_3 < (l0.length : Int)) = true := decide_eq_true c9
             clear c9
             by_cases c10 : 0 ≤ x4_2
             ·rw [if_pos c10] at H
              have c10b0 : decide (0 ≤ x4_2) = true := decide_eq_true c10
              clear c10
              by_cases c11 : x4_2 < (l0.length : Int)
              ·rw [if_pos c11] at H
               have c11b0 : decide (x4_2 < (l0.length : Int)) = true := decide_eq_true c11
               clear c11
               by_cases c12 : 0 ≤ x5_3
               ·rw [if_pos c12] at H
                have c12b0 : decide (0 ≤ x5_3) = true := decide_eq_true c12
                clear c12
                by_cases c13 : x5_3 < ((rd_L1 l0 x4_2).length : Int)
                ·rw [if_pos c13] at H
                 have c13b0 : decide (x5_3 < ((rd_L1 l0 x4_2).length : Int)) = true := decide_eq_true c13
                 clear c13
                 replace H := Option.bind_eq_some_iff.mp H
                 obtain ⟨t166, A140, H⟩ := H
                 replace H : (if t166 = true then (spec_l01Matrix.l1 k3 l0 (l0.length : Int) x4_2 (wrap64 (x5_3 + 1))) else (some false)) = some r := H
                 have A14 := Aside0.mk A140
                 clear A140
                 by_cases c15 : t166 = true
                 ·subst c15
                  have H1 : (spec_l01Matrix.l1 k3 l0 (l0.length : Int) x4_2 (wrap64 (x5_3 + 1))) = some r := by rw [if_pos rfl] at H; exact H
                  clear H
                  have H := H1
                  clear H1
                  have H' := Aside0.mk H
                  clear H
                  have p164 : 0 ≤ (x4_2 : Int) := of_decide_eq_true (by first | (with_reducible assumption) | assumption)
                  have q164 : x4_2 < (l0.length : Int) := of_decide_eq_true (by first | (with_reducible assumption) | assumption)
                  obtain ⟨ad164, A164_0, c164_0, e164, hx164_0, hl164_0, hi164_0⟩ := at_L1 HR0.out x4_2 p164 q164
                  obtain rfl : ad163 = ad164 := (by injection e164)
                  have HR164_0 := Aside0.mk hi164_0
                  have HC164_0 := Aside0.mk hl164_0
                  clear hi164_0 hl164_0
                  replace p164 := eq_true p164
                  replace q164 := eq_true q164
                  have p165 : 0 ≤ (x5_3 : Int) := of_decide_eq_true (by first | (with_reducible assumption) | assumption)
                  have q165 : x5_3 < ((rd_L1 l0 x4_2).length : Int) := of_decide_eq_true (by first | (with_reducible assumption) | assumption)
                  obtain ⟨ad165, e165, hx165_0⟩ := Kd.at_int HR164_0.out x5_3 p165 q165
                  cases e165
                  replace p165 := eq_true p165
                  replace q165 := eq_true q165
                  go_wp2_with (first | ((with_reducible refine gate_callee (f := 91) rfl ?_); refine goesL_ (some 38) rfl rfl Try.func91 (by kernel_rfl) rfl #[.int .i64 (rd (rd_L1 l0 x4_2) x5_3), .int .i64 (-20), .int .i64 20] rfl (by (try simp only [List.map_toArray, List.map_cons, List.map_nil]); first | done | rfl | (simp only [List.length_drop, List.length_take]; rfl)) ?_; (with_reducible refine (spec_l01In.calls (rd (rd_L1 l0 x4_2) x5_3) (-20) 20 true _ A14.out).mono ?_); rintro e w' ⟨rfl, ⟨nd, rfl⟩⟩; refine ⟨_, rfl, ?_⟩))
                  go_roundg k3
                  case measure => have := HJ1.out; have := HK2.out; have := HK3.out; omega
                  case rel => exact ⟨(wrap64 (x5_3 + 1)), (by first | rfl | (simp; done) | (simp [*]; done)), H', ⟨by have := HJ1.out; have := HK2.out; have := HK3.out; omega⟩, by repeat (first | exact Drawn0.refl _ | apply Drawn0.step)⟩
                 ·replace c15 := Bool.eq_false_iff.mpr c15
                  subst c15
                  have H1 : (some false) = some r := by rw [if_neg (show ¬ (false = true) by decide)] at H; exact H
                  clear H
                  have H := H1
                  clear H1
                  obtain rfl := Option.some.inj H
                  have p164 : 0 ≤ (x4_2 : Int) := of_decide_eq_true (by first | (with_reducible assumption) | assumption)
                  have q164 : x4_2 < (l0.length : Int) := of_decide_eq_true (by first | (with_reducible assumption) | assumption)
                  obtain ⟨ad164, A164_0, c164_0, e164, hx164_0, hl164_0, hi164_0⟩ := at_L1 HR0.out x4_2 p164 q164
                  obtain rfl : ad163 = ad164 := (by injection e164)
                  have HR164_0 := Aside0.mk hi164_0
                  have HC164_0 := Aside0.mk hl164_0
                  clear hi164_0 hl164_0
                  replace p164 := eq_true p164
                  replace q164 := eq_true q164
                  have p165 : 0 ≤ (x5_3 : Int) := of_decide_eq_true (by first | (with_reducible assumption) | assumption)
                  have q165 : x5_3 < ((rd_L1 l0 x4_2).length : Int) := of_decide_eq_true (by first | (with_reducible assumption) | assumption)
                  obtain ⟨ad165, e165, hx165_0⟩ := Kd.at_int HR164_0.out x5_3 p165 q165
                  cases e165
                  replace p165 := eq_true p165
                  replace q165 := eq_true q165
                  go_wp2_with (first | ((with_reducible refine gate_callee (f := 91) rfl ?_); refine goesL_ (some 38) rfl rfl Try.func91 (by kernel_rfl) rfl #[.int .i64 (rd (rd_L1 l0 x4_2) x5_3), .int .i64 (-20), .int .i64 20] rfl (by (try simp only [List.map_toArray, List.map_cons, List.map_nil]); first | done | rfl | (simp only [List.length_drop, List.length_take]; rfl)) ?_; (with_reducible refine (spec_l01In.calls (rd (rd_L1 l0 x4_2) x5_3) (-20) 20 false _ A14.out).mono ?_); rintro e w' ⟨rfl, ⟨nd, rfl⟩⟩; refine ⟨_, rfl, ?_⟩))
                  go_ret
                  exact ⟨by first | rfl | (simp; done) | (simp [*]; done), by repeat (first | exact Drawn0.refl _ | apply Drawn0.step)⟩
                ·rw [if_neg c13] at H
                 exact absurd H (by simp)
               ·rw [if_neg c12] at H
                exact absurd H (by simp)
              ·rw [if_neg c11] at H
               exact absurd H (by simp)
             ·rw [if_neg c10] at H
              exact absurd H (by simp)
            ·rw [if_neg c9] at H
             have c9b0 : decide (x5_3 < (l0.length : Int)) = false := decide_eq_false c9
             clear c9
             have H' := Aside0.mk H
             clear H
             go_wp2
             go_roundg k3
             case measure => have := HJ1.out; have := HK2.out; have := HK3.out; omega
             case rel => exact ⟨(wrap64 (x4_2 + 1)), (by first | rfl | (simp; done) | (simp [*]; done)), H', ⟨by have := HJ1.out; have := HK2.out; have := HK3.out; omega⟩, by repeat (first | exact Drawn0.refl _ | apply Drawn0.step)⟩
         ·rw [if_neg c8] at H
          have c8b0 : (((rd_L1 l0 x4_2).length : Int) == (l0.length : Int)) = false := beq_eq_false_iff_ne.mpr c8
          have c8b1 : (((rd_L1 l0 x4_2).length : Int) != (l0.length : Int)) = true := bne_iff_ne.mpr c8
          have c8b2 : ((rd_L1 l0 x4_2).length == l0.length) = false := by first | simpa using c8 | (simp at c8 ⊢; omega)
          obtain rfl := Option.some.inj H
          have p163 : 0 ≤ (x4_2 : Int) := of_decide_eq_true (by first | (with_reducible assumption) | assumption)
          have q163 : x4_2 < (l0.length : Int) := of_decide_eq_true (by first | (with_reducible assumption) | assumption)
          obtain ⟨ad163, A163_0, c163_0, e163, hx163_0, hl163_0, hi163_0⟩ := at_L1 HR0.out x4_2 p163 q163
          cases e163
          have HR163_0 := Aside0.mk hi163_0
          have HC163_0 := Aside0.mk hl163_0
          clear hi163_0 hl163_0
          replace p163 := eq_true p163
          replace q163 := eq_true q163
          go_wp2
          go_ret
          exact ⟨by first | rfl | (simp; done) | (simp [*]; done), by repeat (first | exact Drawn0.refl _ | apply Drawn0.step)⟩
        ·rw [if_neg c7] at H
         exact absurd H (by simp)
       ·rw [if_neg c6] at H
        exact absurd H (by simp)
      ·rw [if_neg c5] at H
       have c5b0 : decide (x4_2 < (l0.length : Int)) = false := decide_eq_false c5
       clear c5
       obtain rfl := Option.some.inj H
       go_wp2
       go_ret
       exact ⟨by first | rfl | (simp; done) | (simp [*]; done), by repeat (first | exact Drawn0.refl _ | apply Drawn0.step)⟩
mutual
def spec_l01Is.j0 : Nat → Bool → List (List Int) → List Int → Option (Bool)
 | 0, _, _, _ => none
 | k + 1, x16, x168000, x168001 => if x16 = true then (some false) else (spec_l01Is.l0 k 0 x168000 x168001)
def spec_l01Is.l0 : Nat → Int → List (List Int) → List Int → Option (Bool)
 | 0, _, _, _ => none
 | k + 1, x3, x168000, x168001 => if x3 < (x168001.length : Int) then (if 0 ≤ x3 then ((spec_l01In.f (rd x168001 x3) (-100) 100).bind fun t170 => (if t170 = true then (spec_l01Is.l0 k (wrap64 (x3 + 1)) x168000 x168001) else (some false))) else (none)) else (some true)
end
def spec_l01Is.f (k : Nat) (l0_0 : List (List Int)) (l0_1 : List Int) : Option (Bool) := (spec_l01Matrix.f k l0_0).bind fun t168 => (if t168 = true then (spec_l01Is.j0 k ((l0_1.length : Int) != (l0_0.length : Int)) l0_0 l0_1) else (spec_l01Is.j0 k true l0_0 l0_1))
theorem spec_l01Is.mono_l : ∀ k, (∀ y0 y1 y2, LeO (spec_l01Is.j0 k y0 y1 y2) (spec_l01Is.j0 (k + 1) y0 y1 y2)) ∧ (∀ y0 y1 y2, LeO (spec_l01Is.l0 k y0 y1 y2) (spec_l01Is.l0 (k + 1) y0 y1 y2))
 | 0 => ⟨fun _ _ _ r h => by simp [spec_l01Is.j0] at h, fun _ _ _ r h => by simp [spec_l01Is.l0] at h⟩
 | k + 1 => by
  obtain ⟨ih0, ih1⟩ := spec_l01Is.mono_l k
  refine ⟨?_, ?_⟩
  ·intro y0 y1 y2
   unfold spec_l01Is.j0
   repeat' first
   | (with_reducible exact ih0 _ _ _)
   | (with_reducible exact ih1 _ _ _)
   | (with_reducible exact spec_l01Matrix.mono _ _)
   | (with_reducible exact LeO.refl _)
   | (with_reducible exact LeO.none _)
   | (with_reducible refine LeO.ite ?_ ?_)
   | (with_reducible refine LeO.bind ?_ (fun _ => ?_))
   | exact ih0 _ _ _
   | exact ih1 _ _ _
   | exact spec_l01Matrix.mono _ _
   | exact LeO.none _
   | refine LeO.ite ?_ ?_
   | refine LeO.bind ?_ (fun _ => ?_)
  ·intro y0 y1 y2
   unfold spec_l01Is.l0
   repeat' first
   | (with_reducible exact ih0 _ _ _)
   | (with_reducible exact ih1 _ _ _)
   | (with_reducible exact spec_l01Matrix.mono _ _)
   | (with_reducible exact LeO.refl _)
   | (with_reducible exact LeO.none _)
   | (with_reducible refine LeO.ite ?_ ?_)
   | (with_reducible refine LeO.bind ?_ (fun _ => ?_))
   | exact ih0 _ _ _
   | exact ih1 _ _ _
   | exact spec_l01Matrix.mono _ _
   | exact LeO.none _
   | refine LeO.ite ?_ ?_
   | refine LeO.bind ?_ (fun _ => ?_)
theorem spec_l01Is.mono : ∀ a0 a1 k, LeO (spec_l01Is.f k a0 a1) (spec_l01Is.f (k + 1) a0 a1) := by
 intro a0 a1 k
 obtain ⟨ih0, ih1⟩ := spec_l01Is.mono_l k
 unfold spec_l01Is.f
 repeat' first
   | (with_reducible exact ih0 _ _ _)
   | (with_reducible exact ih1 _ _ _)
   | (with_reducible exact spec_l01Matrix.mono _ _)
   | (with_reducible exact LeO.refl _)
   | (with_reducible exact LeO.none _)
   | (with_reducible refine LeO.ite ?_ ?_)
   | (with_reducible refine LeO.bind ?_ (fun _ => ?_))
   | exact ih0 _ _ _
   | exact ih1 _ _ _
   | exact spec_l01Matrix.mono _ _
   | exact LeO.none _
   | refine LeO.ite ?_ ?_
   | refine LeO.bind ?_ (fun _ => ?_)
theorem spec_l01Is.calls (k : Nat) (A0_0 : Option Addr) (c0_0 : Nat) (l0_0 : List (List Int)) (A0_1 : Option Addr) (c0_1 : Nat) (l0_1 : List Int) (r : Bool) (w : World) (hr0_0 : Kd.C (Kd.slice 2 (Kd.int .i64)) w A0_0 l0_0.length l0_0) (hc0_0 : l0_0.length ≤ c0_0) (hr0_1 : Kd.C (Kd.int .i64) w A0_1 l0_1.length l0_1) (hc0_1 : l0_1.length ≤ c0_1) (h : spec_l01Is.f k l0_0 l0_1 = some r) :
  Calls Try.prog 66 #[.agg #[.slice A0_0 l0_0.length c0_0, .slice A0_1 l0_1.length c0_1]] w fun e w' => e = .returned (.bool r) ∧ Below w.heap.size w w' := by
 have hu29 := Try.underlying29
 have HR0_0 := Aside0.mk hr0_0
 have HC0_0 := Aside0.mk hc0_0
 clear hr0_0 hc0_0
 have HR0_1 := Aside0.mk hr0_1
 have HC0_1 := Aside0.mk hc0_1
 clear hr0_1 hc0_1
 have HB := Aside0.mk (Below.refl w.heap.size w)
 have H : ((spec_l01Matrix.f k l0_0).bind fun t168 => (if t168 = true then (spec_l01Is.j0 k ((l0_1.length : Int) != (l0_0.length : Int)) l0_0 l0_1) else (spec_l01Is.j0 k true l0_0 l0_1))) = some r := h
 clear h
 have HC2 := Aside0.mk H
 clear H
 go_enter Try.func66, Try.ntmps66
 go_upto_region 1 with (first | ((with_reducible refine gate_dst (N := 1) rfl ?_); (try (refine gate_guard (by rfl) ?_; dsimp only)); refine box_event ?hg (N := 1) ?hd (cs := #[.slice A0_0 l0_0.length c0_0, .slice A0_1 l0_1.length c0_1]) (t := 29) ?hr ?_; (case hd => rfl); (case hg => rfl); (case hr => first | (go_simp; done) | (go_simp; rfl)); intro gb167 hg w3 hbox hb; have n0_ := Aside0.mk (bs_ hb); have n1_ := Aside0.mk (hbox); have n2_ := Aside0.mk ((by rw [hg]; exact bz_ : w.heap.size ≤ gb167)); have n3_ := Aside0.mk ((by rw [hg]; exact bz_ : w.heap.size ≤ gb167)); clear HB; have HB := n0_; have BK167 := n1_; have GW167 := n2_; have GE167 := n3_; clear n0_ n1_ n2_ n3_; clear hb hbox hg))
 (try simp only [Act.put, List.setIfInBounds_toArray, List.set_cons_zero, List.set_cons_succ])
 go_cut [16] (fun v16 wc => ∃ (kq : Nat) (x16_1 : Bool), v16 = .bool x16_1 ∧ Aside0 (spec_l01Is.j0 kq x16_1 l0_0 l0_1 = some r) ∧ Aside0 (kq ≤ k) ∧ Aside0 (wc.heap[gb167]? = some (.cells #[(.slice A0_0 l0_0.length c0_0), (.slice A0_1 l0_1.length c0_1)] 29 (0, 0))) ∧ Aside0 (Below w.heap.size w wc))
 case first =>
  have H := HC2.out
  clear HC2
  replace H := Option.bind_eq_some_iff.mp H
  obtain ⟨t168, A40, H⟩ := H
  replace H : (if t168 = true then (spec_l01Is.j0 k ((l0_1.length : Int) != (l0_0.length : Int)) l0_0 l0_1) else (spec_l01Is.j0 k true l0_0 l0_1)) = some r := H
  have A4 := Aside0.mk A40
  clear A40
  by_cases c5 : t168 = true
  ·subst c5
   have H1 : (spec_l01Is.j0 k ((l0_1.length : Int) != (l0_0.length : Int)) l0_0 l0_1) = some r := by rw [if_pos rfl] at H; exact H
   clear H
   have H := H1
   clear H1
   have H' := Aside0.mk H
   clear H
   have hcz6_0 : w3.cell? ⟨gb167, 0, none⟩ = some (.slice A0_0 l0_0.length c0_0) := (blk_cell BK167.out 0).trans rfl
   have hcz6_1 : w3.cell? ⟨gb167, 1, none⟩ = some (.slice A0_1 l0_1.length c0_1) := (blk_cell BK167.out 1).trans rfl
   have hfz6_0 := blk_frozen BK167.out 0
   have hfz6_1 := blk_frozen BK167.out 1
   go_wp2_with (first | ((with_reducible refine gate_callee (f := 102) rfl ?_); refine goesL_ (some 6) rfl rfl Try.func102 (by kernel_rfl) rfl #[.slice A0_0 l0_0.length c0_0] rfl (by (try simp only [List.map_toArray, List.map_cons, List.map_nil]); first | done | rfl | (simp only [List.length_drop, List.length_take]; rfl)) ?_; (with_reducible refine (spec_l01Matrix.calls k _ _ l0_0 true _ ?side1 ?side2 A4.out).mono ?_); (case side1 => exact cb_ HR0_0.out HB.out); (case side2 => exact HC0_0.out); rintro e w' ⟨rfl, ⟨nd, rfl⟩⟩; refine ⟨_, rfl, ?_⟩))
   go_meet
   case rel => exact ⟨_, (((l0_1.length : Int) != (l0_0.length : Int))), (by first | rfl | (simp; done) | (simp [*]; done)), H', ⟨by first | omega | exact Nat.le_refl _⟩, ⟨bk_⟩, ⟨hb_⟩⟩
  ·replace c5 := Bool.eq_false_iff.mpr c5
   subst c5
   have H1 : (spec_l01Is.j0 k true l0_0 l0_1) = some r := by rw [if_neg (show ¬ (false = true) by decide)] at H; exact H
   clear H
   have H := H1
   clear H1
   have H' := Aside0.mk H
   clear H
   have hcz7_0 : w3.cell? ⟨gb167, 0, none⟩ = some (.slice A0_0 l0_0.length c0_0) := (blk_cell BK167.out 0).trans rfl
   have hcz7_1 : w3.cell? ⟨gb167, 1, none⟩ = some (.slice A0_1 l0_1.length c0_1) := (blk_cell BK167.out 1).trans rfl
   have hfz7_0 := blk_frozen BK167.out 0
   have hfz7_1 := blk_frozen BK167.out 1
   go_wp2_with (first | ((with_reducible refine gate_callee (f := 102) rfl ?_); refine goesL_ (some 6) rfl rfl Try.func102 (by kernel_rfl) rfl #[.slice A0_0 l0_0.length c0_0] rfl (by (try simp only [List.map_toArray, List.map_cons, List.map_nil]); first | done | rfl | (simp only [List.length_drop, List.length_take]; rfl)) ?_; (with_reducible refine (spec_l01Matrix.calls k _ _ l0_0 false _ ?side1 ?side2 A4.out).mono ?_); (case side1 => exact cb_ HR0_0.out HB.out); (case side2 => exact HC0_0.out); rintro e w' ⟨rfl, ⟨nd, rfl⟩⟩; refine ⟨_, rfl, ?_⟩))
   go_meet
   case rel => exact ⟨_, (true), (by first | rfl | (simp; done) | (simp [*]; done)), H', ⟨by first | omega | exact Nat.le_refl _⟩, ⟨bk_⟩, ⟨hb_⟩⟩
 case rest =>
  clear HC2
  try clear c1
  try clear p2
  try clear c5
  try clear c6
  try clear hcz6_0
  try clear hcz6_1
  try clear hcz7_0
  try clear hcz7_1
  try clear hfz6_0
  try clear hfz6_1
  try clear hfz7_0
  try clear hfz7_1
  obtain ⟨kq, x16_1, rfl, HA, HJ1, BK167, HB⟩ := hcut
  cases kq with
  | zero => exact absurd HA.out (by simp [spec_l01Is.j0])
  | succ kj1 =>
   have H := HA.out
   clear HA
   simp only [spec_l01Is.j0] at H
   by_cases c8 : x16_1 = true
   ·subst c8
    have H1 : (some false) = some r := by rw [if_pos rfl] at H; exact H
    clear H
    have H := H1
    clear H1
    obtain rfl := Option.some.inj H
    go_wp2
    go_ret
    exact ⟨by first | rfl | (simp [errW_none, errW_some] <;> rfl) | (simp [*, errW_none, errW_some] <;> rfl), hb_⟩
   ·replace c8 := Bool.eq_false_iff.mpr c8
    subst c8
    have H1 : (spec_l01Is.l0 kj1 0 l0_0 l0_1) = some r := by rw [if_neg (show ¬ (false = true) by decide)] at H; exact H
    clear H
    have H := H1
    clear H1
    have H' := Aside0.mk H
    clear H
    go_wp2
    go_loopg [3] kj1 (fun kq v3 w' => ∃ (x3_2 : Int), v3 = .int .i64 x3_2 ∧ Aside0 (spec_l01Is.l0 kq x3_2 l0_0 l0_1 = some r) ∧ Aside0 (kq ≤ kj1) ∧ Aside0 (w'.heap[gb167]? = some (.cells #[(.slice A0_0 l0_0.length c0_0), (.slice A0_1 l0_1.length c0_1)] 29 (0, 0))) ∧ Aside0 (Below w.heap.size w w'))
    case atStart => exact ⟨(0), (by first | rfl | (simp; done) | (simp [*]; done)), H', ⟨Nat.le_refl _⟩, ⟨bk_⟩, ⟨hb_⟩⟩
    case round =>
     clear H'
     try clear c1
     try clear p2
     try clear c5
     try clear c6
     try clear c8
     try clear hcz6_0
     try clear hcz6_1
     try clear hcz7_0
     try clear hcz7_1
     try clear hfz6_0
     try clear hfz6_1
     try clear hfz7_0
     try clear hfz7_1
     try clear p2
     obtain ⟨x3_2, rfl, HA, HK2, BK167, HB⟩ := hrel
     cases gk with
     | zero => exact absurd HA.out (by simp [spec_l01Is.l0])
     | succ k2 =>
      have H := HA.out
      clear HA
      simp only [spec_l01Is.l0] at H
      by_cases c9 : x3_2 < (l0_1.length : Int)
      ·rw [if_pos c9] at H
       have c9b0 : decide (x3_2 < (l0_1.length : Int)) = true := decide_eq_true c9
       clear c9
       by_cases c10 : 0 ≤ x3_2
       ·rw [if_pos c10] at H
        have c10b0 : decide (0 ≤ x3_2) = true := decide_eq_true c10
        clear c10
        replace H := Option.bind_eq_some_iff.mp H
        obtain ⟨t170, A110, H⟩ := H
        replace H : (if t170 = true then (spec_l01Is.l0 k2 (wrap64 (x3_2 + 1)) l0_0 l0_1) else (some false)) = some r := H
        have A11 := Aside0.mk A110
        clear A110
        by_cases c12 : t170 = true
        ·subst c12
         have H1 : (spec_l01Is.l0 k2 (wrap64 (x3_2 + 1)) l0_0 l0_1) = some r := by rw [if_pos rfl] at H; exact H
         clear H
         have H := H1
         clear H1
         have H' := Aside0.mk H
         clear H
         have hcz13_0 : wr.cell? ⟨gb167, 0, none⟩ = some (.slice A0_0 l0_0.length c0_0) := (blk_cell BK167.out 0).trans rfl
         have hcz13_1 : wr.cell? ⟨gb167, 1, none⟩ = some (.slice A0_1 l0_1.length c0_1) := (blk_cell BK167.out 1).trans rfl
         have hfz13_0 := blk_frozen BK167.out 0
         have hfz13_1 := blk_frozen BK167.out 1
         have p169 : 0 ≤ (x3_2 : Int) := of_decide_eq_true (by first | (with_reducible assumption) | assumption)
         have q169 : x3_2 < (l0_1.length : Int) := of_decide_eq_true (by first | (with_reducible assumption) | assumption)
         obtain ⟨ad169, e169, hx169_0⟩ := Kd.at_int HR0_1.out x3_2 p169 q169
         cases e169
         replace hx169_0 := (HB.out.cell (World.block_lt_of_cell? w _ hx169_0)).trans hx169_0
         replace p169 := eq_true p169
         replace q169 := eq_true q169
         go_wp2_with (first | ((with_reducible refine gate_callee (f := 91) rfl ?_); refine goesL_ (some 29) rfl rfl Try.func91 (by kernel_rfl) rfl #[.int .i64 (rd l0_1 x3_2), .int .i64 (-100), .int .i64 100] rfl (by (try simp only [List.map_toArray, List.map_cons, List.map_nil]); first | done | rfl | (simp only [List.length_drop, List.length_take]; rfl)) ?_; (with_reducible refine (spec_l01In.calls (rd l0_1 x3_2) (-100) 100 true _ A11.out).mono ?_); rintro e w' ⟨rfl, ⟨nd, rfl⟩⟩; refine ⟨_, rfl, ?_⟩))
         go_roundg k2
         case measure => have := HJ1.out; have := HK2.out; omega
         case rel => exact ⟨(wrap64 (x3_2 + 1)), (by first | rfl | (simp; done) | (simp [*]; done)), H', ⟨by have := HJ1.out; have := HK2.out; omega⟩, ⟨bk_⟩, ⟨hb_⟩⟩
        ·replace c12 := Bool.eq_false_iff.mpr c12
         subst c12
         have H1 : (some false) = some r := by rw [if_neg (show ¬ (false = true) by decide)] at H; exact H
         clear H
         have H := H1
         clear H1
         obtain rfl := Option.some.inj H
         have hcz14_0 : wr.cell? ⟨gb167, 0, none⟩ = some (.slice A0_0 l0_0.length c0_0) := (blk_cell BK167.out 0).trans rfl
         have hcz14_1 : wr.cell? ⟨gb167, 1, none⟩ = some (.slice A0_1 l0_1.length c0_1) := (blk_cell BK167.out 1).trans rfl
         have hfz14_0 := blk_frozen BK167.out 0
         have hfz14_1 := blk_frozen BK167.out 1
         have p169 : 0 ≤ (x3_2 : Int) := of_decide_eq_true (by first | (with_reducible assumption) | assumption)
         have q169 : x3_2 < (l0_1.length : Int) := of_decide_eq_true (by first | (with_reducible assumption) | assumption)
         obtain ⟨ad169, e169, hx169_0⟩ := Kd.at_int HR0_1.out x3_2 p169 q169
         cases e169
         replace hx169_0 := (HB.out.cell (World.block_lt_of_cell? w _ hx169_0)).trans hx169_0
         replace p169 := eq_true p169
         replace q169 := eq_true q169
         go_wp2_with (first | ((with_reducible refine gate_callee (f := 91) rfl ?_); refine goesL_ (some 29) rfl rfl Try.func91 (by kernel_rfl) rfl #[.int .i64 (rd l0_1 x3_2), .int .i64 (-100), .int .i64 100] rfl (by (try simp only [List.map_toArray, List.map_cons, List.map_nil]); first | done | rfl | (simp only [List.length_drop, List.length_take]; rfl)) ?_; (with_reducible refine (spec_l01In.calls (rd l0_1 x3_2) (-100) 100 false _ A11.out).mono ?_); rintro e w' ⟨rfl, ⟨nd, rfl⟩⟩; refine ⟨_, rfl, ?_⟩))
         go_ret
         exact ⟨by first | rfl | (simp [errW_none, errW_some] <;> rfl) | (simp [*, errW_none, errW_some] <;> rfl), hb_⟩
       ·rw [if_neg c10] at H
        exact absurd H (by simp)
      ·rw [if_neg c9] at H
       have c9b0 : decide (x3_2 < (l0_1.length : Int)) = false := decide_eq_false c9
       clear c9
       obtain rfl := Option.some.inj H
       have hcz15_0 : wr.cell? ⟨gb167, 0, none⟩ = some (.slice A0_0 l0_0.length c0_0) := (blk_cell BK167.out 0).trans rfl
       have hcz15_1 : wr.cell? ⟨gb167, 1, none⟩ = some (.slice A0_1 l0_1.length c0_1) := (blk_cell BK167.out 1).trans rfl
       have hfz15_0 := blk_frozen BK167.out 0
       have hfz15_1 := blk_frozen BK167.out 1
       go_wp2
       go_ret
       exact ⟨by first | rfl | (simp [errW_none, errW_some] <;> rfl) | (simp [*, errW_none, errW_some] <;> rfl), hb_⟩
def spec_l02Code.f (k : Nat) (l0_0 : List (List Int)) (l0_1 : List Int) (a1 : Int) : Option (Int) := (spec_l01Is.f k l0_0 l0_1).bind fun t172 => (if t172 = true then (if 0 ≤ (IntKind.u64.wrap ((l0_1.length : Int))) then ((spec_l01In.f a1 0 (wrap64 ((shl .i64 1 (IntKind.u64.wrap ((l0_1.length : Int)))) - 1))).bind fun t173 => (if t173 = true then (some 0) else (some 2))) else (none)) else (some 1))
theorem spec_l02Code.mono : ∀ a0 a1 a2 k, LeO (spec_l02Code.f k a0 a1 a2) (spec_l02Code.f (k + 1) a0 a1 a2) := by
 intro a0 a1 a2 k
 unfold spec_l02Code.f
 repeat' first
   | (with_reducible exact spec_l01Is.mono _ _ _)
   | (with_reducible exact LeO.refl _)
   | (with_reducible exact LeO.none _)
   | (with_reducible refine LeO.ite ?_ ?_)
   | (with_reducible refine LeO.bind ?_ (fun _ => ?_))
   | exact spec_l01Is.mono _ _ _
   | exact LeO.none _
   | refine LeO.ite ?_ ?_
   | refine LeO.bind ?_ (fun _ => ?_)
theorem spec_l02Code.calls (k : Nat) (A0_0 : Option Addr) (c0_0 : Nat) (l0_0 : List (List Int)) (A0_1 : Option Addr) (c0_1 : Nat) (l0_1 : List Int) (a1 : Int) (r : Int) (w : World) (hr0_0 : Kd.C (Kd.slice 2 (Kd.int .i64)) w A0_0 l0_0.length l0_0) (hc0_0 : l0_0.length ≤ c0_0) (hr0_1 : Kd.C (Kd.int .i64) w A0_1 l0_1.length l0_1) (hc0_1 : l0_1.length ≤ c0_1) (h : spec_l02Code.f k l0_0 l0_1 a1 = some r) :
  Calls Try.prog 74 #[.agg #[.slice A0_0 l0_0.length c0_0, .slice A0_1 l0_1.length c0_1], .int .i64 a1] w fun e w' => e = .returned (.int .i64 r) ∧ Below w.heap.size w w' := by
 have hu29 := Try.underlying29
 have HR0_0 := Aside0.mk hr0_0
 have HC0_0 := Aside0.mk hc0_0
 clear hr0_0 hc0_0
 have HR0_1 := Aside0.mk hr0_1
 have HC0_1 := Aside0.mk hc0_1
 clear hr0_1 hc0_1
 have HB := Aside0.mk (Below.refl w.heap.size w)
 have H : ((spec_l01Is.f k l0_0 l0_1).bind fun t172 => (if t172 = true then (if 0 ≤ (IntKind.u64.wrap ((l0_1.length : Int))) then ((spec_l01In.f a1 0 (wrap64 ((shl .i64 1 (IntKind.u64.wrap ((l0_1.length : Int)))) - 1))).bind fun t173 => (if t173 = true then (some 0) else (some 2))) else (none)) else (some 1))) = some r := h
 clear h
 replace H := Option.bind_eq_some_iff.mp H
 obtain ⟨t172, A30, H⟩ := H
 replace H : (if t172 = true then (if 0 ≤ (IntKind.u64.wrap ((l0_1.length : Int))) then ((spec_l01In.f a1 0 (wrap64 ((shl .i64 1 (IntKind.u64.wrap ((l0_1.length : Int)))) - 1))).bind fun t173 => (if t173 = true then (some 0) else (some 2))) else (none)) else (some 1)) = some r := H
 have A3 := Aside0.mk A30
 clear A30
 by_cases c4 : t172 = true
 ·subst c4
  have H1 : (if 0 ≤ (IntKind.u64.wrap ((l0_1.length : Int))) then ((spec_l01In.f a1 0 (wrap64 ((shl .i64 1 (IntKind.u64.wrap ((l0_1.length : Int)))) - 1))).bind fun t173 => (if t173 = true then (some 0) else (some 2))) else (none)) = some r := by rw [if_pos rfl] at H; exact H
  clear H
  have H := H1
  clear H1
  obtain ⟨ji5, hji5⟩ : ∃ j_ : Int, (IntKind.u64.wrap ((l0_1.length : Int))) = j_ := ⟨_, rfl⟩
  replace H : (if 0 ≤ (ji5) then ((spec_l01In.f a1 0 (wrap64 ((shl .i64 1 (ji5)) - 1))).bind fun t173 => (if t173 = true then (some 0) else (some 2))) else (none)) = some r := by first | (rw [hji5] at H; exact H) | (simp only [hji5] at H ⊢; exact H)
  (try rw [hji5] at A3)
  by_cases c6 : 0 ≤ (ji5)
  ·rw [if_pos c6] at H
   have c6b0 := eq_true c6
   have c6b1 : decide (0 ≤ (ji5)) = true := decide_eq_true c6
   clear c6
   obtain ⟨ji7, hji7⟩ : ∃ j_ : Int, (shl .i64 1 (ji5)) = j_ := ⟨_, rfl⟩
   replace H : ((spec_l01In.f a1 0 (wrap64 ((ji7) - 1))).bind fun t173 => (if t173 = true then (some 0) else (some 2))) = some r := by first | (rw [hji7] at H; exact H) | (simp only [hji7] at H ⊢; exact H)
   (try rw [hji7] at A3)
   have hji7_ : (IntKind.i64.wrap (1 * 2 ^ min (ji5).toNat 64)) = ji7 := hji7
   have hji7z : (ji5) ≤ 64 → (IntKind.i64.wrap (1 * 2 ^ (ji5).toNat)) = ji7 := shl_small hji7
   have hji7u : (IntKind.i64.wrap (2 ^ min (ji5).toNat 64)) = ji7 := by have h_ := hji7_; rw [Int.one_mul] at h_; exact h_
   have hji7v : (ji5) ≤ 64 → (IntKind.i64.wrap (2 ^ (ji5).toNat)) = ji7 := fun hle_ => by have h_ := hji7z hle_; rw [Int.one_mul] at h_; exact h_
   have hji7y : (wrap64 (1 * 2 ^ min (ji5).toNat 64)) = ji7 := (i64_w _).symm.trans hji7_
   have hji7x : (ji5) ≤ 64 → (wrap64 (1 * 2 ^ (ji5).toNat)) = ji7 := fun h_ => (i64_w _).symm.trans (hji7z h_)
   replace H := Option.bind_eq_some_iff.mp H
   obtain ⟨t173, A80, H⟩ := H
   replace H : (if t173 = true then (some 0) else (some 2)) = some r := H
   have A8 := Aside0.mk A80
   clear A80
   by_cases c9 : t173 = true
   ·subst c9
    have H1 : (some 0) = some r := by rw [if_pos rfl] at H; exact H
    clear H
    have H := H1
    clear H1
    obtain rfl := Option.some.inj H
    go_enter Try.func74, Try.ntmps74
    go_wp2_with (first | ((with_reducible refine gate_dst (N := 2) rfl ?_); refine box_event ?hg (N := 2) ?hd (cs := #[.slice A0_0 l0_0.length c0_0, .slice A0_1 l0_1.length c0_1]) (t := 29) ?hr ?_; (case hd => rfl); (case hg => rfl); (case hr => first | (go_simp; done) | (go_simp; rfl)); intro gb171 hg w10 hbox hb; have n0_ := Aside0.mk (bs_ hb); have n1_ := Aside0.mk (hbox); have n2_ := Aside0.mk ((by rw [hg]; exact bz_ : w.heap.size ≤ gb171)); have n3_ := Aside0.mk ((by rw [hg]; exact bz_ : w.heap.size ≤ gb171)); clear HB; have HB := n0_; have BK171 := n1_; have GW171 := n2_; have GE171 := n3_; clear n0_ n1_ n2_ n3_; clear hb hbox hg; have hcz11_0 : w10.cell? ⟨gb171, 0, none⟩ = some (.slice A0_0 l0_0.length c0_0) := (blk_cell BK171.out 0).trans rfl; have hcz11_1 : w10.cell? ⟨gb171, 1, none⟩ = some (.slice A0_1 l0_1.length c0_1) := (blk_cell BK171.out 1).trans rfl; have hfz11_0 := blk_frozen BK171.out 0; have hfz11_1 := blk_frozen BK171.out 1) | ((with_reducible refine gate_callee (f := 66) rfl ?_); refine goesL_ (some 7) rfl rfl Try.func66 (by kernel_rfl) rfl #[.agg #[.slice A0_0 l0_0.length c0_0, .slice A0_1 l0_1.length c0_1]] rfl (by (try simp only [List.map_toArray, List.map_cons, List.map_nil]); first | done | rfl | (simp only [List.length_drop, List.length_take]; rfl)) ?_; (with_reducible refine (spec_l01Is.calls k _ _ l0_0 _ _ l0_1 true _ ?side1 ?side2 ?side3 ?side4 A3.out).mono ?_); (case side1 => exact cb_ HR0_0.out HB.out); (case side2 => exact HC0_0.out); (case side3 => exact cb_ HR0_1.out HB.out); (case side4 => exact HC0_1.out); rintro e w12 ⟨rfl, hb⟩; refine ⟨_, rfl, ?_⟩; have n0_ := Aside0.mk (bb_ BK171.out hb); have n1_ := Aside0.mk (bs_ hb); clear BK171; clear HB; have BK171 := n0_; have HB := n1_; clear n0_ n1_; (try clear hb); (try clear hb2); (try clear hk); (try clear hi); have hcz13_0 : w12.cell? ⟨gb171, 0, none⟩ = some (.slice A0_0 l0_0.length c0_0) := (blk_cell BK171.out 0).trans rfl; have hcz13_1 : w12.cell? ⟨gb171, 1, none⟩ = some (.slice A0_1 l0_1.length c0_1) := (blk_cell BK171.out 1).trans rfl; have hfz13_0 := blk_frozen BK171.out 0; have hfz13_1 := blk_frozen BK171.out 1) | ((with_reducible refine gate_callee (f := 91) rfl ?_); refine goesL_ (some 17) rfl rfl Try.func91 (by kernel_rfl) rfl #[.int .i64 a1, .int .i64 0, .int .i64 (wrap64 ((ji7) - 1))] rfl (by (try simp only [List.map_toArray, List.map_cons, List.map_nil]); first | done | (simp only [hji7]; rfl) | rfl | (simp only [List.length_drop, List.length_take]; rfl)) ?_; (with_reducible refine (spec_l01In.calls a1 0 (wrap64 ((ji7) - 1)) true _ A8.out).mono ?_); rintro e w' ⟨rfl, ⟨nd, rfl⟩⟩; refine ⟨_, rfl, ?_⟩))
    go_ret
    exact ⟨by first | rfl | (simp [errW_none, errW_some] <;> rfl) | (simp only [← hji5, ← hji7]; first | rfl | (simp [errW_none, errW_some] <;> rfl)) | (simp [*, errW_none, errW_some] <;> rfl), hb_⟩
   ·replace c9 := Bool.eq_false_iff.mpr c9
    subst c9
    have H1 : (some 2) = some r := by rw [if_neg (show ¬ (false = true) by decide)] at H; exact H
    clear H
    have H := H1
    clear H1
    obtain rfl := Option.some.inj H
    go_enter Try.func74, Try.ntmps74
    go_wp2_with (first | ((with_reducible refine gate_dst (N := 2) rfl ?_); refine box_event ?hg (N := 2) ?hd (cs := #[.slice A0_0 l0_0.length c0_0, .slice A0_1 l0_1.length c0_1]) (t := 29) ?hr ?_; (case hd => rfl); (case hg => rfl); (case hr => first | (go_simp; done) | (go_simp; rfl)); intro gb171 hg w14 hbox hb; have n0_ := Aside0.mk (bs_ hb); have n1_ := Aside0.mk (hbox); have n2_ := Aside0.mk ((by rw [hg]; exact bz_ : w.heap.size ≤ gb171)); have n3_ := Aside0.mk ((by rw [hg]; exact bz_ : w.heap.size ≤ gb171)); clear HB; have HB := n0_; have BK171 := n1_; have GW171 := n2_; have GE171 := n3_; clear n0_ n1_ n2_ n3_; clear hb hbox hg; have hcz15_0 : w14.cell? ⟨gb171, 0, none⟩ = some (.slice A0_0 l0_0.length c0_0) := (blk_cell BK171.out 0).trans rfl; have hcz15_1 : w14.cell? ⟨gb171, 1, none⟩ = some (.slice A0_1 l0_1.length c0_1) := (blk_cell BK171.out 1).trans rfl; have hfz15_0 := blk_frozen BK171.out 0; have hfz15_1 := blk_frozen BK171.out 1) | ((with_reducible refine gate_callee (f := 66) rfl ?_); refine goesL_ (some 7) rfl rfl Try.func66 (by kernel_rfl) rfl #[.agg #[.slice A0_0 l0_0.length c0_0, .slice A0_1 l0_1.length c0_1]] rfl (by (try simp only [List.map_toArray, List.map_cons, List.map_nil]); first | done | rfl | (simp only [List.length_drop, List.length_take]; rfl)) ?_; (with_reducible refine (spec_l01Is.calls k _ _ l0_0 _ _ l0_1 true _ ?side1 ?side2 ?side3 ?side4 A3.out).mono ?_); (case side1 => exact cb_ HR0_0.out HB.out); (case side2 => exact HC0_0.out); (case side3 => exact cb_ HR0_1.out HB.out); (case side4 => exact HC0_1.out); rintro e w16 ⟨rfl, hb⟩; refine ⟨_, rfl, ?_⟩; have n0_ := Aside0.mk (bb_ BK171.out hb); have n1_ := Aside0.mk (bs_ hb); clear BK171; clear HB; have BK171 := n0_; have HB := n1_; clear n0_ n1_; (try clear hb); (try clear hb2); (try clear hk); (try clear hi); have hcz17_0 : w16.cell? ⟨gb171, 0, none⟩ = some (.slice A0_0 l0_0.length c0_0) := (blk_cell BK171.out 0).trans rfl; have hcz17_1 : w16.cell? ⟨gb171, 1, none⟩ = some (.slice A0_1 l0_1.length c0_1) := (blk_cell BK171.out 1).trans rfl; have hfz17_0 := blk_frozen BK171.out 0; have hfz17_1 := blk_frozen BK171.out 1) | ((with_reducible refine gate_callee (f := 91) rfl ?_); refine goesL_ (some 17) rfl rfl Try.func91 (by kernel_rfl) rfl #[.int .i64 a1, .int .i64 0, .int .i64 (wrap64 ((ji7) - 1))] rfl (by (try simp only [List.map_toArray, List.map_cons, List.map_nil]); first | done | (simp only [hji7]; rfl) | rfl | (simp only [List.length_drop, List.length_take]; rfl)) ?_; (with_reducible refine (spec_l01In.calls a1 0 (wrap64 ((ji7) - 1)) false _ A8.out).mono ?_); rintro e w' ⟨rfl, ⟨nd, rfl⟩⟩; refine ⟨_, rfl, ?_⟩))
    go_ret
    exact ⟨by first | rfl | (simp [errW_none, errW_some] <;> rfl) | (simp only [← hji5, ← hji7]; first | rfl | (simp [errW_none, errW_some] <;> rfl)) | (simp [*, errW_none, errW_some] <;> rfl), hb_⟩
  ·rw [if_neg c6] at H
   exact absurd H (by simp)
 ·replace c4 := Bool.eq_false_iff.mpr c4
  subst c4
  have H1 : (some 1) = some r := by rw [if_neg (show ¬ (false = true) by decide)] at H; exact H
  clear H
  have H := H1
  clear H1
  obtain rfl := Option.some.inj H
  go_enter Try.func74, Try.ntmps74
  go_wp2_with (first | ((with_reducible refine gate_dst (N := 2) rfl ?_); refine box_event ?hg (N := 2) ?hd (cs := #[.slice A0_0 l0_0.length c0_0, .slice A0_1 l0_1.length c0_1]) (t := 29) ?hr ?_; (case hd => rfl); (case hg => rfl); (case hr => first | (go_simp; done) | (go_simp; rfl)); intro gb171 hg w18 hbox hb; have n0_ := Aside0.mk (bs_ hb); have n1_ := Aside0.mk (hbox); have n2_ := Aside0.mk ((by rw [hg]; exact bz_ : w.heap.size ≤ gb171)); have n3_ := Aside0.mk ((by rw [hg]; exact bz_ : w.heap.size ≤ gb171)); clear HB; have HB := n0_; have BK171 := n1_; have GW171 := n2_; have GE171 := n3_; clear n0_ n1_ n2_ n3_; clear hb hbox hg; have hcz19_0 : w18.cell? ⟨gb171, 0, none⟩ = some (.slice A0_0 l0_0.length c0_0) := (blk_cell BK171.out 0).trans rfl; have hcz19_1 : w18.cell? ⟨gb171, 1, none⟩ = some (.slice A0_1 l0_1.length c0_1) := (blk_cell BK171.out 1).trans rfl; have hfz19_0 := blk_frozen BK171.out 0; have hfz19_1 := blk_frozen BK171.out 1) | ((with_reducible refine gate_callee (f := 66) rfl ?_); refine goesL_ (some 7) rfl rfl Try.func66 (by kernel_rfl) rfl #[.agg #[.slice A0_0 l0_0.length c0_0, .slice A0_1 l0_1.length c0_1]] rfl (by (try simp only [List.map_toArray, List.map_cons, List.map_nil]); first | done | rfl | (simp only [List.length_drop, List.length_take]; rfl)) ?_; (with_reducible refine (spec_l01Is.calls k _ _ l0_0 _ _ l0_1 false _ ?side1 ?side2 ?side3 ?side4 A3.out).mono ?_); (case side1 => exact cb_ HR0_0.out HB.out); (case side2 => exact HC0_0.out); (case side3 => exact cb_ HR0_1.out HB.out); (case side4 => exact HC0_1.out); rintro e w20 ⟨rfl, hb⟩; refine ⟨_, rfl, ?_⟩; have n0_ := Aside0.mk (bb_ BK171.out hb); have n1_ := Aside0.mk (bs_ hb); clear BK171; clear HB; have BK171 := n0_; have HB := n1_; clear n0_ n1_; (try clear hb); (try clear hb2); (try clear hk); (try clear hi)))
  go_ret
  exact ⟨by first | rfl | (simp [errW_none, errW_some] <;> rfl) | (simp [*, errW_none, errW_some] <;> rfl), hb_⟩
def spec_l01Own.f (l0 : List Int) : Option (List Int) := (some (([] : List Int) : List Int)).bind fun y174 => (if y174.length + l0.length < 17592186044416 then (some (y174 ++ l0)) else (none))
theorem spec_l01Own.calls (A0 : Option Addr) (c0 : Nat) (l0 : List Int) (r : List Int) (w : World) (hr0 : Kd.C (Kd.int .i64) w A0 l0.length l0) (hc0 : l0.length ≤ c0) (h : spec_l01Own.f l0 = some r) :
  Calls Try.prog 89 #[.slice A0 l0.length c0] w fun e w' => ∃ v0_ : Value, e = .returned (v0_) ∧ Kd.R (Kd.int .i64) 2 w' w.heap.size (fun _ => True) v0_ r ∧ Below w.heap.size w w' := by
 have HR0 := Aside0.mk hr0
 have HC0 := Aside0.mk hc0
 clear hr0 hc0
 have HB := Aside0.mk (Below.refl w.heap.size w)
 have H : ((some (([] : List Int) : List Int)).bind fun y174 => (if y174.length + l0.length < 17592186044416 then (some (y174 ++ l0)) else (none))) = some r := h
 clear h
 obtain ⟨y174, hy174⟩ : ∃ y_ : List Int, y_ = (([] : List Int)) := ⟨_, rfl⟩
 replace H : (if y174.length + l0.length < 17592186044416 then (some (y174 ++ l0)) else (none)) = some r := by first | (rw [hy174]; with_reducible exact H) | (have H2_ := (Option.bind_some _ _).symm.trans H; rw [hy174]; with_reducible exact H2_) | (have H2_ := (Option.bind_some _ _).symm.trans H; with_reducible exact H2_) | with_reducible exact H | (rw [hy174]; exact H) | exact H
 have Ny174 := Aside0.mk hy174
 clear hy174
 by_cases c2 : y174.length + l0.length < 17592186044416
 ·rw [if_pos c2] at H
  have LMc2 := Aside0.mk c2
  clear c2
  obtain ⟨y177, hy177⟩ : ∃ y_ : List Int, y_ = (y174 ++ l0) := ⟨_, rfl⟩
  replace H : (some y177) = some r := by first | (rw [hy177]; with_reducible exact H) | (have H2_ := (Option.bind_some _ _).symm.trans H; rw [hy177]; with_reducible exact H2_) | (have H2_ := (Option.bind_some _ _).symm.trans H; with_reducible exact H2_) | with_reducible exact H | (rw [hy177]; exact H) | exact H
  have Ny177 := Aside0.mk hy177
  clear hy177
  obtain rfl := Option.some.inj H
  go_enter Try.func89, Try.ntmps89
  go_wp2_with (first | ((with_reducible refine gate_dst (N := 3) rfl ?_); refine Kd.R_lit (Kd.int .i64) _ 2 ?hg (N := 3) ?hd (xs := ([] : List Int)) (inner := []) (ok := fun _ => True) (okp := fun _ => True) ?hr ?hp (fun _ hk => hk) trivial (Below.refl _ _) (Nat.le_refl _) (by simp) ?_; (case hd => rfl); (case hg => rfl); (case hr => first | (go_simp; done) | (go_simp; rfl)); (case hp => exact (Reps.none _ _)); intro v175 w3 ho4 hb hg_ hnew_; clear hg_ hnew_; (first | rw [← Ny174.out] at ho4 | (simp only [Int.reduceToNat] at ho4; rw [← Ny174.out] at ho4)); have n0_ := Aside0.mk (Kd.R_lower ho4 bz_); have n1_ := Aside0.mk (bs_ hb); clear HB; have HO176 := n0_; have HB := n1_; clear n0_ n1_; clear hb ho4) | ((with_reducible refine gate_builtin (b := .append) (xs := #[.tmp 3, .tmp 4]) rfl ?_); at_builtin; refine Kd.R_append_rows (Kd.int .i64) (w0 := w) w.heap.size rfl (.tmp 3) (.tmp 4) 23 2 (.int .i64 0) 8 rfl Try.underlying23 info2 rfl (by decide) (by omega) v175 y174 l0 _ _ _ (fun _ => True) (fun _ => False) rfl rfl ?aO ?aR (fun _ _ h => h) (fun _ h => h.elim) ?aF ?aB ?aS ?aL ?_; (case aR => exact cb_ HR0.out HB.out); (case aB => exact hb_); (case aF => exact (fun _ _ => trivial)); (case aO => exact (ro_ HO176.out)); (case aS => exact bz_); (case aL => have := LMc2.out; omega); intro v178 w5 ho hb hg hat; rw [← Ny177.out] at ho; have n0_ := Aside0.mk (hb); have n1_ := Aside0.mk (ho); clear HB; clear HO176; have HB := n0_; have HO179 := n1_; clear n0_ n1_; clear ho hb hg hat))
  go_ret
  exact ⟨_, by first | rfl | (simp [errW_none, errW_some] <;> rfl) | (simp [*, errW_none, errW_some] <;> rfl), ro_ HO179.out, hb_⟩
 ·rw [if_neg c2] at H
  exact absurd H (by simp)
mutual
def spec_l01Det.l0 : Nat → List (List Int) → Int → Int → Option (Int)
 | 0, _, _, _ => none
 | k + 1, x0, x3, x4 => if x4 < (x0.length : Int) then (if 0 < (x0.length : Int) then (if 0 ≤ x4 then (if x4 < ((rd_L1 x0 0).length : Int) then (if (rd (rd_L1 x0 0) x4) = 0 then (spec_l01Det.l0 k x0 x3 (wrap64 (x4 + 1))) else (spec_l01Det.l1 k x0 x3 x4 (([] : List (List Int))) 1)) else (none)) else (none)) else (none)) else (some x3)
def spec_l01Det.l1 : Nat → List (List Int) → Int → Int → List (List Int) → Int → Option (Int)
 | 0, _, _, _, _, _ => none
 | k + 1, x0, x3, x4, x5, x6 => if x6 < (x0.length : Int) then (if 0 ≤ x6 then (if 0 ≤ x4 then (if x4 ≤ ((rd_L1 x0 x6).length : Int) then ((spec_l01Own.f ((rd_L1 x0 x6).take (x4 : Int).toNat)).bind fun t187 => (if 0 ≤ (wrap64 (x4 + 1)) then (if (wrap64 (x4 + 1)) ≤ ((rd_L1 x0 x6).length : Int) then (if t187.length + ((rd_L1 x0 x6).drop ((wrap64 (x4 + 1)) : Int).toNat).length < 17592186044416 then (if x5.length < 5864062014805 then (spec_l01Det.l1 k x0 x3 x4 (x5 ++ [(t187 ++ ((rd_L1 x0 x6).drop ((wrap64 (x4 + 1)) : Int).toNat))]) (wrap64 (x6 + 1))) else (none)) else (none)) else (none)) else (none))) else (none)) else (none)) else (none)) else (if 0 < (x0.length : Int) then (if 0 ≤ x4 then (if x4 < ((rd_L1 x0 0).length : Int) then ((spec_l01Det.f k x5).bind fun t200 => (if (Int.tmod x4 2) = 1 then (spec_l01Det.l0 k x0 (wrap64 (x3 + (wrap64 (-(wrap64 ((rd (rd_L1 x0 0) x4) * t200)))))) (wrap64 (x4 + 1))) else (spec_l01Det.l0 k x0 (wrap64 (x3 + (wrap64 ((rd (rd_L1 x0 0) x4) * t200)))) (wrap64 (x4 + 1))))) else (none)) else (none)) else (none))
def spec_l01Det.f : Nat → List (List Int) → Option (Int)
 | 0, _ => none
 | k + 1, l0 => if (l0.length : Int) = 0 then (some 1) else (spec_l01Det.l0 k l0 0 0)
end
theorem spec_l01Det.mono_l : ∀ k, (∀ y0, LeO (spec_l01Det.f k y0) (spec_l01Det.f (k + 1) y0)) ∧ (∀ y0 y1 y2, LeO (spec_l01Det.l0 k y0 y1 y2) (spec_l01Det.l0 (k + 1) y0 y1 y2)) ∧ (∀ y0 y1 y2 y3 y4, LeO (spec_l01Det.l1 k y0 y1 y2 y3 y4) (spec_l01Det.l1 (k + 1) y0 y1 y2 y3 y4))
 | 0 => ⟨fun _ r h => by simp [spec_l01Det.f] at h, fun _ _ _ r h => by simp [spec_l01Det.l0] at h, fun _ _ _ _ _ r h => by simp [spec_l01Det.l1] at h⟩
 | k + 1 => by
  obtain ⟨ih0, ih1, ih2⟩ := spec_l01Det.mono_l k
  refine ⟨?_, ?_, ?_⟩
  ·intro y0
   unfold spec_l01Det.f
   repeat' first
   | (with_reducible exact ih0 _)
   | (with_reducible exact ih1 _ _ _)
   | (with_reducible exact ih2 _ _ _ _ _)
   | (with_reducible exact LeO.refl _)
   | (with_reducible exact LeO.none _)
   | (with_reducible refine LeO.ite ?_ ?_)
   | (with_reducible refine LeO.bind ?_ (fun _ => ?_))
   | exact ih0 _
   | exact ih1 _ _ _
   | exact ih2 _ _ _ _ _
   | exact LeO.none _
   | refine LeO.ite ?_ ?_
   | refine LeO.bind ?_ (fun _ => ?_)
  ·intro y0 y1 y2
   unfold spec_l01Det.l0
   repeat' first
   | (with_reducible exact ih0 _)
   | (with_reducible exact ih1 _ _ _)
   | (with_reducible exact ih2 _ _ _ _ _)
   | (with_reducible exact LeO.refl _)
   | (with_reducible exact LeO.none _)
   | (with_reducible refine LeO.ite ?_ ?_)
   | (with_reducible refine LeO.bind ?_ (fun _ => ?_))
   | exact ih0 _
   | exact ih1 _ _ _
   | exact ih2 _ _ _ _ _
   | exact LeO.none _
   | refine LeO.ite ?_ ?_
   | refine LeO.bind ?_ (fun _ => ?_)
  ·intro y0 y1 y2 y3 y4
   unfold spec_l01Det.l1
   repeat' first
   | (with_reducible exact ih0 _)
   | (with_reducible exact ih1 _ _ _)
   | (with_reducible exact ih2 _ _ _ _ _)
   | (with_reducible exact LeO.refl _)
   | (with_reducible exact LeO.none _)
   | (with_reducible refine LeO.ite ?_ ?_)
   | (with_reducible refine LeO.bind ?_ (fun _ => ?_))
   | exact ih0 _
   | exact ih1 _ _ _
   | exact ih2 _ _ _ _ _
   | exact LeO.none _
   | refine LeO.ite ?_ ?_
   | refine LeO.bind ?_ (fun _ => ?_)
theorem spec_l01Det.mono : ∀ a0 k, LeO (spec_l01Det.f k a0) (spec_l01Det.f (k + 1) a0) := by
 intro a0 k
 obtain ⟨ih0, ih1, ih2⟩ := spec_l01Det.mono_l k
 exact ih0 a0
def spec_l01Det.T12 : Bool × List (List Nat × List Nat) := (true, [([], []), ([], []), ([], []), ([1, 2], [1, 2]), ([3], [3]), ([], []), ([4, 5], [4, 5]), ([6], [6]), ([], []), ([], []), ([8, 9], [8, 9]), ([10], [10]), ([], []), ([12], [12]), ([11, 13], [11, 13]), ([7, 14, 7], [7, 14]), ([15], [15]), ([0, 16, 15], [0, 16]), ([17, 17, 0, 1, 2, 3, 4, 5, 6, 7, 8, 9, 10, 11, 12, 13, 14, 15, 16, 17], [0, 17])])
def spec_l01Det.B12 : List Nat := [0, 0, 0, 6, 14, 0, 62, 126, 0, 0, 768, 1792, 0, 4096, 16128, 32766, 65534, 131071, 262143]
theorem spec_l01Det.tab12 : rtab .any (opsOf Try.f136 12) = spec_l01Det.T12 := by kernel_rfl
theorem spec_l01Det.bits12 : waitsOk spec_l01Det.T12.2 spec_l01Det.B12 = true := by kernel_rfl
def spec_l01Det.T13 : Bool × List (List Nat × List Nat) := (true, [([], []), ([0], [0]), ([1], [1]), ([], []), ([2, 3], [2, 3]), ([4], [4]), ([], []), ([6], [6]), ([5, 7], [5, 7]), ([8, 7, 0, 1, 2, 3, 4, 5, 6, 7, 8], [8])])
def spec_l01Det.B13 : List Nat := [0, 1, 3, 0, 15, 31, 0, 64, 255, 511]
theorem spec_l01Det.tab13 : rtab .any (opsOf Try.f136 13) = spec_l01Det.T13 := by kernel_rfl
theorem spec_l01Det.bits13 : waitsOk spec_l01Det.T13.2 spec_l01Det.B13 = true := by kernel_rfl
theorem spec_l01Det.calls (k : Nat) : ∀ (A0 : Option Addr) (c0 : Nat) (l0 : List (List Int)) (r : Int) (w : World) (hr0 : Kd.C (Kd.slice 2 (Kd.int .i64)) w A0 l0.length l0) (hc0 : l0.length ≤ c0) (h : spec_l01Det.f k l0 = some r),
  Calls Try.prog 136 #[.slice A0 l0.length c0] w fun e w' => e = .returned (.int .i64 r) ∧ Below w.heap.size w w' := by
 induction k using Nat.strongRecOn with
 | _ k ih =>
 intro A0 c0 l0 r w hr0 hc0 h
 cases k with
 | zero => exact absurd h (by simp [spec_l01Det.f])
 | succ k =>
 simp only [spec_l01Det.f] at h
 have HR0 := Aside0.mk hr0
 have HC0 := Aside0.mk hc0
 clear hr0 hc0
 have HB := Aside0.mk (Below.refl w.heap.size w)
 have H : (if (l0.length : Int) = 0 then (some 1) else (spec_l01Det.l0 k l0 0 0)) = some r := h
 clear h
 by_cases c2 : (l0.length : Int) = 0
 ·rw [if_pos c2] at H
  have c2b0 : ((l0.length : Int) == 0) = true := beq_iff_eq.mpr c2
  have c2b1 : ((l0.length : Int) != 0) = false := bne_eq_false_iff_eq.mpr c2
  clear c2
  obtain rfl := Option.some.inj H
  go_enter Try.func136, Try.ntmps136
  go_wp2
  go_ret
  exact ⟨by first | rfl | (simp [errW_none, errW_some] <;> rfl) | (simp [*, errW_none, errW_some] <;> rfl), hb_⟩
 ·rw [if_neg c2] at H
  have c2b0 : ((l0.length : Int) == 0) = false := beq_eq_false_iff_ne.mpr c2
  have c2b1 : ((l0.length : Int) != 0) = true := bne_iff_ne.mpr c2
  have c2b2 : ¬ (l0 = []) := fun h_ => c2 (by rw [h_]; rfl)
  have H' := Aside0.mk H
  clear H
  go_enter Try.func136, Try.ntmps136
  go_wp2
  go_loopg [3, 4] k (fun kq v3 v4 w' => ∃ (x3_1 : Int) (x4_1 : Int), v3 = .int .i64 x3_1 ∧ v4 = .int .i64 x4_1 ∧ Aside0 (spec_l01Det.l0 kq l0 x3_1 x4_1 = some r) ∧ Aside0 (kq ≤ k) ∧ Aside0 (Below w.heap.size w w'))
  case atStart => exact ⟨(0), (0), (by first | rfl | (simp; done) | (simp [*]; done)), (by first | rfl | (simp; done) | (simp [*]; done)), H', ⟨Nat.le_refl _⟩, ⟨hb_⟩⟩
  case round =>
   clear H'
   try clear c1
   try clear c2
   try clear c2b0
   try clear c2b1
   try clear c2b2
   try clear p2
   obtain ⟨x3_1, x4_1, rfl, rfl, HA, HK1, HB⟩ := hrel
   cases gk with
   | zero => exact absurd HA.out (by simp [spec_l01Det.l0])
   | succ k1 =>
    have H := HA.out
    clear HA
    simp only [spec_l01Det.l0] at H
    by_cases c3 : x4_1 < (l0.length : Int)
    ·rw [if_pos c3] at H
     have c3b0 : decide (x4_1 < (l0.length : Int)) = true := decide_eq_true c3
     clear c3
     by_cases c4 : 0 < (l0.length : Int)
     ·rw [if_pos c4] at H
      have c4b0 : decide (0 < (l0.length : Int)) = true := decide_eq_true c4
      have c4b1 : decide (0 < l0.length) = true := decide_eq_true (by omega)
      clear c4
      by_cases c5 : 0 ≤ x4_1
      ·rw [if_pos c5] at H
       have c5b0 : decide (0 ≤ x4_1) = true := decide_eq_true c5
       clear c5
       by_cases c6 : x4_1 < ((rd_L1 l0 0).length : Int)
       ·rw [if_pos c6] at H
        have c6b0 : decide (x4_1 < ((rd_L1 l0 0).length : Int)) = true := decide_eq_true c6
        clear c6
        by_cases c7 : (rd (rd_L1 l0 0) x4_1) = 0
        ·rw [if_pos c7] at H
         have c7b0 : ((rd (rd_L1 l0 0) x4_1) == 0) = true := beq_iff_eq.mpr c7
         have c7b1 : ((rd (rd_L1 l0 0) x4_1) != 0) = false := bne_eq_false_iff_eq.mpr c7
         clear c7
         have H' := Aside0.mk H
         clear H
         have p180 : 0 ≤ (0 : Int) := (by omega)
         have q180 : 0 < (l0.length : Int) := of_decide_eq_true (by first | (with_reducible assumption) | assumption)
         obtain ⟨ad180, A180_0, c180_0, e180, hx180_0, hl180_0, hi180_0⟩ := at_L1 HR0.out 0 p180 q180
         cases e180
         have qi180 : (0 < l0.length) = True := eq_true (by omega)
         (try rw [show ((0 : Int)).toNat = 0 from rfl] at hx180_0)
         (try rw [Addr.add_zero'] at hx180_0)
         replace hx180_0 := (HB.out.cell (World.block_lt_of_cell? w _ hx180_0)).trans hx180_0
         have HR180_0 := Aside0.mk hi180_0
         have HC180_0 := Aside0.mk hl180_0
         clear hi180_0 hl180_0
         replace p180 := eq_true p180
         replace q180 := eq_true q180
         have p181 : 0 ≤ (x4_1 : Int) := of_decide_eq_true (by first | (with_reducible assumption) | assumption)
         have q181 : x4_1 < ((rd_L1 l0 0).length : Int) := of_decide_eq_true (by first | (with_reducible assumption) | assumption)
         obtain ⟨ad181, e181, hx181_0⟩ := Kd.at_int HR180_0.out x4_1 p181 q181
         cases e181
         replace hx181_0 := (HB.out.cell (World.block_lt_of_cell? w _ hx181_0)).trans hx181_0
         replace p181 := eq_true p181
         replace q181 := eq_true q181
         go_wp2
         go_roundg k1
         case measure => have := HK1.out; omega
         case rel => exact ⟨(x3_1), (wrap64 (x4_1 + 1)), (by first | rfl | (simp; done) | (simp [*]; done)), (by first | rfl | (simp; done) | (simp [*]; done)), H', ⟨by have := HK1.out; omega⟩, ⟨hb_⟩⟩
        ·rw [if_neg c7] at H
         have c7b0 : ((rd (rd_L1 l0 0) x4_1) == 0) = false := beq_eq_false_iff_ne.mpr c7
         have c7b1 : ((rd (rd_L1 l0 0) x4_1) != 0) = true := bne_iff_ne.mpr c7
         obtain ⟨y182, hy182⟩ : ∃ y_ : List (List Int), y_ = (([] : List (List Int))) := ⟨_, rfl⟩
         replace H : (spec_l01Det.l1 k1 l0 x3_1 x4_1 y182 1) = some r := by first | (rw [hy182]; with_reducible exact H) | (have H2_ := (Option.bind_some _ _).symm.trans H; rw [hy182]; with_reducible exact H2_) | (have H2_ := (Option.bind_some _ _).symm.trans H; with_reducible exact H2_) | with_reducible exact H | (rw [hy182]; exact H) | exact H
         have Ny182 := Aside0.mk hy182
         clear hy182
         have H' := Aside0.mk H
         clear H
         have p180 : 0 ≤ (0 : Int) := (by omega)
         have q180 : 0 < (l0.length : Int) := of_decide_eq_true (by first | (with_reducible assumption) | assumption)
         obtain ⟨ad180, A180_0, c180_0, e180, hx180_0, hl180_0, hi180_0⟩ := at_L1 HR0.out 0 p180 q180
         cases e180
         have qi180 : (0 < l0.length) = True := eq_true (by omega)
         (try rw [show ((0 : Int)).toNat = 0 from rfl] at hx180_0)
         (try rw [Addr.add_zero'] at hx180_0)
         replace hx180_0 := (HB.out.cell (World.block_lt_of_cell? w _ hx180_0)).trans hx180_0
         have HR180_0 := Aside0.mk hi180_0
         have HC180_0 := Aside0.mk hl180_0
         clear hi180_0 hl180_0
         replace p180 := eq_true p180
         replace q180 := eq_true q180
         have p181 : 0 ≤ (x4_1 : Int) := of_decide_eq_true (by first | (with_reducible assumption) | assumption)
         have q181 : x4_1 < ((rd_L1 l0 0).length : Int) := of_decide_eq_true (by first | (with_reducible assumption) | assumption)
         obtain ⟨ad181, e181, hx181_0⟩ := Kd.at_int HR180_0.out x4_1 p181 q181
         cases e181
         replace hx181_0 := (HB.out.cell (World.block_lt_of_cell? w _ hx181_0)).trans hx181_0
         replace p181 := eq_true p181
         replace q181 := eq_true q181
         go_wp2_with (first | ((with_reducible refine gate_dst (N := 24) rfl ?_); refine Kd.S_lit (Kd.slice 2 (Kd.int .i64)) _ 23 ?hg (N := 24) ?hd (xs := ([] : List (List Int))) (inner := []) (ok := fun _ => True) (okp := fun _ => True) ?hr ?hp (fun _ hk => hk) trivial (Below.refl _ _) (Nat.le_refl _) (by simp) ?_; (case hd => rfl); (case hg => rfl); (case hr => first | (go_simp; done) | (go_simp; rfl)); (case hp => exact (Reps.none _ _)); intro v183 w8 ho9 hb hg_ hnew_; clear hg_ hnew_; (first | rw [← Ny182.out] at ho9 | (simp only [Int.reduceToNat] at ho9; rw [← Ny182.out] at ho9)); have n0_ := Aside0.mk (Kd.S_lower ho9 bz_); have n1_ := Aside0.mk (bs_ hb); clear HB; have HO184 := n0_; have HB := n1_; clear n0_ n1_; clear hb ho9))
         go_loopg [5, 6] k1 (fun kq v5 v6 w' => ∃ (x5_2 : List (List Int)) (x6_2 : Int), v6 = .int .i64 x6_2 ∧ Aside0 (spec_l01Det.l1 kq l0 x3_1 x4_1 x5_2 x6_2 = some r) ∧ Aside0 (kq ≤ k1) ∧ Aside0 (Kd.S (Kd.slice 2 (Kd.int .i64)) 23 w' w.heap.size (fun _ => True) v5 x5_2) ∧ Aside0 (Below w.heap.size w w'))
         case atStart => exact ⟨(y182), (1), (by first | rfl | (simp; done) | (simp [*]; done)), H', ⟨Nat.le_refl _⟩, ⟨so_ HO184.out⟩, ⟨hb_⟩⟩
         case round =>
          clear H'
          try clear c1
          try clear p1
          try clear q1
          try clear hx1
          try clear qi1
          try clear c2
          try clear c2b0
          try clear c2b1
          try clear c2b2
          try clear p2
          try clear c3
          try clear c3b0
          try clear c4
          try clear c4b0
          try clear c4b1
          try clear c5
          try clear c5b0
          try clear c6
          try clear c6b0
          try clear p6
          try clear c7
          try clear c7b0
          try clear c7b1
          try clear hx180_0
          try clear hx181_0
          try clear p180
          try clear p181
          try clear p2
          try clear q180
          try clear q181
          obtain ⟨x5_2, x6_2, rfl, HA, HK2, HO_5, HB⟩ := hrel
          cases gk with
          | zero => exact absurd HA.out (by simp [spec_l01Det.l1])
          | succ k2 =>
           have H := HA.out
           clear HA
           simp only [spec_l01Det.l1] at H
           by_cases c10 : x6_2 < (l0.length : Int)
           ·rw [if_pos c10] at H
            have c10b0 : decide (x6_2 < (l0.length : Int)) = true := decide_eq_true c10
            clear c10
            by_cases c11 : 0 ≤ x6_2
            ·rw [if_pos c11] at H
             have c11b0 : decide (0 ≤ x6_2) = true := decide_eq_true c11
             clear c11
             by_cases c12 : 0 ≤ x4_1
             ·rw [if_pos c12] at H
              have c12b0 := eq_true c12
              have c12b1 : decide (0 ≤ x4_1) = true := decide_eq_true c12
              clear c12
              by_cases c13 : x4_1 ≤ ((rd_L1 l0 x6_2).length : Int)
              ·rw [if_pos c13] at H
               have c13b0 := eq_true c13
               have c13b1 : decide (x4_1 ≤ ((rd_L1 l0 x6_2).length : Int)) = true := decide_eq_true c13
               clear c13
               replace H := Option.bind_eq_some_iff.mp H
               obtain ⟨t187, A140, H⟩ := H
               replace H : (if 0 ≤ (wrap64 (x4_1 + 1)) then (if (wrap64 (x4_1 + 1)) ≤ ((rd_L1 l0 x6_2).length : Int) then (if t187.length + ((rd_L1 l0 x6_2).drop ((wrap64 (x4_1 + 1)) : Int).toNat).length < 17592186044416 then (if x5_2.length < 5864062014805 then (spec_l01Det.l1 k2 l0 x3_1 x4_1 (x5_2 ++ [(t187 ++ ((rd_L1 l0 x6_2).drop ((wrap64 (x4_1 + 1)) : Int).toNat))]) (wrap64 (x6_2 + 1))) else (none)) else (none)) else (none)) else (none)) = some r := H
               have A14 := Aside0.mk A140
               clear A140
               obtain ⟨ji15, hji15⟩ : ∃ j_ : Int, (wrap64 (x4_1 + 1)) = j_ := ⟨_, rfl⟩
               replace H : (if 0 ≤ (ji15) then (if (ji15) ≤ ((rd_L1 l0 x6_2).length : Int) then (if t187.length + ((rd_L1 l0 x6_2).drop ((ji15) : Int).toNat).length < 17592186044416 then (if x5_2.length < 5864062014805 then (spec_l01Det.l1 k2 l0 x3_1 x4_1 (x5_2 ++ [(t187 ++ ((rd_L1 l0 x6_2).drop ((ji15) : Int).toNat))]) (wrap64 (x6_2 + 1))) else (none)) else (none)) else (none)) else (none)) = some r := by first | (rw [hji15] at H; exact H) | (simp only [hji15] at H ⊢; exact H)
               (try rw [hji15] at A14)
               have hji15w : (IntKind.i64.wrap (x4_1 + 1)) = ji15 := (i64_w _).trans hji15
               by_cases c16 : 0 ≤ (ji15)
               ·rw [if_pos c16] at H
                have c16b0 := eq_true c16
                have c16b1 : decide (0 ≤ (ji15)) = true := decide_eq_true c16
                clear c16
                by_cases c17 : (ji15) ≤ ((rd_L1 l0 x6_2).length : Int)
                ·rw [if_pos c17] at H
                 have c17b0 := eq_true c17
                 have c17b1 : decide ((ji15) ≤ ((rd_L1 l0 x6_2).length : Int)) = true := decide_eq_true c17
                 clear c17
                 by_cases c18 : t187.length + ((rd_L1 l0 x6_2).drop ((ji15) : Int).toNat).length < 17592186044416
                 ·rw [if_pos c18] at H
                  have LMc18 := Aside0.mk c18
                  clear c18
                  obtain ⟨y192, hy192⟩ : ∃ y_ : List Int, y_ = (t187 ++ ((rd_L1 l0 x6_2).drop ((ji15) : Int).toNat)) := ⟨_, rfl⟩
                  replace H : (if x5_2.length < 5864062014805 then (spec_l01Det.l1 k2 l0 x3_1 x4_1 (x5_2 ++ [y192]) (wrap64 (x6_2 + 1))) else (none)) = some r := by first | (rw [hy192]; with_reducible exact H) | (have H2_ := (Option.bind_some _ _).symm.trans H; rw [hy192]; with_reducible exact H2_) | (have H2_ := (Option.bind_some _ _).symm.trans H; with_reducible exact H2_) | with_reducible exact H | (rw [hy192]; exact H) | exact H
                  have Ny192 := Aside0.mk hy192
                  clear hy192
                  by_cases c19 : x5_2.length < 5864062014805
                  ·rw [if_pos c19] at H
                   have LMc19 := Aside0.mk c19
                   clear c19
                   obtain ⟨y195, hy195⟩ : ∃ y_ : List (List Int), y_ = (x5_2 ++ [y192]) := ⟨_, rfl⟩
                   replace H : (spec_l01Det.l1 k2 l0 x3_1 x4_1 y195 (wrap64 (x6_2 + 1))) = some r := by first | (rw [hy195]; with_reducible exact H) | (have H2_ := (Option.bind_some _ _).symm.trans H; rw [hy195]; with_reducible exact H2_) | (have H2_ := (Option.bind_some _ _).symm.trans H; with_reducible exact H2_) | with_reducible exact H | (rw [hy195]; exact H) | exact H
                   have Ny195 := Aside0.mk hy195
                   clear hy195
                   have H' := Aside0.mk H
                   clear H
                   try go_wp2
                   have n0_ := Aside0.mk (Kd.S_drew HO_5.out)
                   have n1_ := Aside0.mk (below_drew1 HB.out)
                   clear HO_5
                   clear HB
                   have HO_5 := n0_
                   have HB := n1_
                   clear n0_ n1_
                   have p185 : 0 ≤ (x6_2 : Int) := of_decide_eq_true (by first | (with_reducible assumption) | assumption)
                   have q185 : x6_2 < (l0.length : Int) := of_decide_eq_true (by first | (with_reducible assumption) | assumption)
                   obtain ⟨ad185, A185_0, c185_0, e185, hx185_0, hl185_0, hi185_0⟩ := at_L1 HR0.out x6_2 p185 q185
                   have hw185_0 := hx185_0
                   obtain rfl : ad180 = ad185 := (by injection e185)
                   replace hx185_0 := (HB.out.cell (World.block_lt_of_cell? w _ hx185_0)).trans hx185_0
                   have HR185_0 := Aside0.mk hi185_0
                   have HC185_0 := Aside0.mk hl185_0
                   clear hi185_0 hl185_0
                   replace p185 := eq_true p185
                   replace q185 := eq_true q185
                   obtain ⟨i021, hi021, _, hsz21, _⟩ := info_parts info2
                   obtain ⟨hcut21, hA21, hC21⟩ := print_take_of (P := Try.prog) (Value.int .i64) 0 23 2 .i64 Try.underlying23 hi021 hsz21 A185_0 c185_0 (rd_L1 l0 x6_2) x4_1 (of_decide_eq_true (by first | (with_reducible assumption) | assumption)) (of_decide_eq_true (by first | (with_reducible assumption) | assumption)) HC185_0.out
                   have HR186 := Aside0.mk (Kd.C_of_reads (h1 := fun _ => rfl) (hA21 _ (Kd.reads_of_C HR185_0.out)))
                   have HC186 := Aside0.mk hC21
                   clear hA21 hC21 hi021 hsz21
                   have p190 : 0 ≤ (x6_2 : Int) := of_decide_eq_true (by first | (with_reducible assumption) | assumption)
                   have q190 : x6_2 < (l0.length : Int) := of_decide_eq_true (by first | (with_reducible assumption) | assumption)
                   obtain ⟨ad190, A190_0, c190_0, e190, hx190_0, hl190_0, hi190_0⟩ := at_L1 HR0.out x6_2 p190 q190
                   have hw190_0 := hx190_0
                   obtain rfl : ad180 = ad190 := (by injection e190)
                   replace hx190_0 := (HB.out.cell (World.block_lt_of_cell? w _ hx190_0)).trans hx190_0
                   have HR190_0 := Aside0.mk hi190_0
                   have HC190_0 := Aside0.mk hl190_0
                   clear hi190_0 hl190_0
                   replace p190 := eq_true p190
                   replace q190 := eq_true q190
                   have ea_ := Option.some.inj (hx185_0.symm.trans hx190_0)
                   injection ea_ with ea_ en_ ec_
                   subst ea_
                   subst ec_
                   clear en_
                   obtain ⟨i022, hi022, _, hsz22, _⟩ := info_parts info2
                   obtain ⟨A22, hcut22, hA22, hC22⟩ := print_drop_of (P := Try.prog) (Value.int .i64) 0 23 2 .i64 Try.underlying23 hi022 hsz22 A185_0 c185_0 (rd_L1 l0 x6_2) (ji15) (of_decide_eq_true (by first | (with_reducible assumption) | assumption)) (of_decide_eq_true (by first | (with_reducible assumption) | assumption)) HC190_0.out
                   have HR191 := Aside0.mk (Kd.C_of_reads (h1 := fun _ => rfl) (hA22 _ (Kd.reads_of_C HR190_0.out)))
                   have HC191 := Aside0.mk hC22
                   clear hA22 hC22 hi022 hsz22
                   refine st_ (n := 19) (S := fun w' => w'.cell? (ad180.add (x6_2).toNat) = some (.slice A185_0 (rd_L1 l0 x6_2).length c185_0) ∧ w'.cell? (ad180.add (x6_2).toNat) = some (.slice A185_0 (rd_L1 l0 x6_2).length c185_0)) (ds := []) ⟨((HB.out.cell (World.block_lt_of_cell? w _ hw185_0)).trans hw185_0), ((HB.out.cell (World.block_lt_of_cell? w _ hw190_0)).trans hw190_0)⟩ (fun hHeld => ?_); refine with_tabW spec_l01Det.tab12 spec_l01Det.bits12 (fun HT_ HW_ => ?_)
                   generalize wr.drew = w20 at HO_5 HB HR185_0 HR186 HR190_0 HR191 hx185_0 hx190_0 hHeld ⊢
                   refine pu_ 0 31 ?_; refine pu_ 1 32 ?_; refine pu_ 2 33 ?_; refine pu_ 3 34 ?_; refine pu_ 5 36 ?_; refine pu_ 8 39 ?_; refine pu_ 9 40 ?_; refine pu_ 10 41 ?_; refine pu_ 12 43 ?_; refine pu_ 13 44 ?_; refine tk_ 4 35 ?_; refine pu_ 6 37 ?_; refine tk_ 11 42 ?_; refine pu_ 14 45 ?_
                   refine on_ 7 (some 38) (fun K hK => ?_)
                   refine goes_ Try.func89 (by kernel_rfl) rfl #[.slice A185_0 ((rd_L1 l0 x6_2).take (x4_1 : Int).toNat).length c185_0] (by rfl) rfl rfl (by (try simp only [List.map_toArray, List.map_cons, List.map_nil]); first | done | (rw [show ((rd_L1 l0 x6_2).take (x4_1 : Int).toNat).length = x4_1.toNat from (by rw [List.length_take]; have h_ : (x4_1 : Int) ≤ ((rd_L1 l0 x6_2).length : Int) := of_decide_eq_true (by first | (with_reducible assumption) | assumption); omega)] <;> rfl) | rfl | (simp only [List.length_drop, List.length_take]; rfl)) ?_
                   with_reducible refine (spec_l01Own.calls _ _ ((rd_L1 l0 x6_2).take (x4_1 : Int).toNat) t187 _ ?side1 ?side2 A14.out).mono ?_
                   (case side1 => exact cb_ HR186.out HB.out)
                   (case side2 => exact HC186.out)
                   rintro e w23 ⟨v188, rfl, ho0, hb⟩
                   refine ⟨_, rfl, ?_⟩
                   have n0_ := Aside0.mk (Kd.S_elder' (so_ HO_5.out) (Kd.R_base ho0) hb)
                   have n1_ := Aside0.mk (Kd.R_lower ho0 bz_)
                   have n2_ := Aside0.mk (bs_ hb)
                   clear HO_5
                   clear HB
                   have HO_5 := n0_
                   have HO189 := n1_
                   have HB := n2_
                   clear n0_ n1_ n2_
                   (try clear hb)
                   (try clear hb2)
                   (try clear hk)
                   (try clear hi)
                   (try clear ho0)
                   refine hK.out _ _ ⟨((HB.out.cell (World.block_lt_of_cell? w _ hw185_0)).trans hw185_0), ((HB.out.cell (World.block_lt_of_cell? w _ hw190_0)).trans hw190_0)⟩ (fun hHeld => ?_)
                   clear hK K
                   refine norm_ (a' := ?_) ?_ ?_
                   rotate_left
                   ·show Act.put _ (some 38) _ = _
                    simp only [Act.put, List.setIfInBounds_toArray, List.set_cons_zero, List.set_cons_succ, i64_w, i32_w]
                    rfl
                   refine on_ 15 (some 46) (fun K hK => ?_)
                   refine Kd.R_append_rows_step (Kd.int .i64) (w0 := w) w.heap.size (by rfl) (.tmp 38) (.tmp 45) 23 2 (.int .i64 0) 8 rfl Try.underlying23 info2 rfl (by decide) (by omega) v188 t187 ((rd_L1 l0 x6_2).drop ((ji15) : Int).toNat) _ _ _ (fun _ => True) (fun _ => False) rfl rfl ?aO ?aR (fun _ _ h => h) (fun _ h => h.elim) ?aF ?aB ?aS ?aL ?_
                   (case aR => first | (rw [← show ((rd_L1 l0 x6_2).drop ((ji15) : Int).toNat).length = ((rd_L1 l0 x6_2).length - (ji15).toNat) from List.length_drop]; exact cb_ HR191.out HB.out) | (exact cb_ HR191.out HB.out))
                   (case aB => exact hb_)
                   (case aF => exact (fun _ _ => trivial))
                   (case aO => exact (ro_ HO189.out))
                   (case aS => exact bz_)
                   (case aL => have := LMc18.out; have hlx_ := (show ((rd_L1 l0 x6_2).drop ((ji15) : Int).toNat).length = ((rd_L1 l0 x6_2).length - (ji15).toNat) from List.length_drop); omega)
                   intro v193 w24 ho hb hg hat
                   rw [← Ny192.out] at ho
                   have n0_ := Aside0.mk (Kd.S_after (ok := (fun _ => True)) (so_ HO_5.out) hg hat)
                   have n1_ := Aside0.mk (hb)
                   have n2_ := Aside0.mk (ho)
                   clear HO_5
                   clear HB
                   clear HO189
                   have HO_5 := n0_
                   have HB := n1_
                   have HO194 := n2_
                   clear n0_ n1_ n2_
                   clear ho hb hg hat
                   obtain ⟨Ao26, co26, eo26⟩ := Kd.R_slice HO194.out
                   (first | subst eo26 | (injection eo26 with f1_ f2_ f3_; have f4_ := f1_.symm; have f5_ := f3_.symm; clear f1_ f2_ f3_; subst f4_; subst f5_))
                   refine hK.out _ _ ⟨((HB.out.cell (World.block_lt_of_cell? w _ hw185_0)).trans hw185_0), ((HB.out.cell (World.block_lt_of_cell? w _ hw190_0)).trans hw190_0)⟩ (fun hHeld => ?_)
                   clear hK K
                   refine norm_ (a' := ?_) ?_ ?_
                   rotate_left
                   ·show Act.put _ (some 46) _ = _
                    simp only [Act.put, List.setIfInBounds_toArray, List.set_cons_zero, List.set_cons_succ, i64_w, i32_w]
                    rfl
                   refine on_ 16 (some 47) (fun K hK => ?_)
                   refine value_ (w1 := ?_) (v := ?_) (by rfl) rfl ?_ ?_
                   rotate_left 2
                   ·go_simp
                    constructor
                    ·rfl
                    ·rfl
                   refine hK.out _ _ ⟨(World.cell?_alloc_lt _ _ _ (World.block_lt_of_cell? _ _ (((HB.out.cell (World.block_lt_of_cell? w _ hw185_0)).trans hw185_0)))).trans (((HB.out.cell (World.block_lt_of_cell? w _ hw185_0)).trans hw185_0)), (World.cell?_alloc_lt _ _ _ (World.block_lt_of_cell? _ _ (((HB.out.cell (World.block_lt_of_cell? w _ hw190_0)).trans hw190_0)))).trans (((HB.out.cell (World.block_lt_of_cell? w _ hw190_0)).trans hw190_0))⟩ (fun hHeld => ?_)
                   clear hK K
                   refine norm_ (a' := ?_) ?_ ?_
                   rotate_left
                   ·show Act.put _ (some 47) _ = _
                    simp only [Act.put, List.setIfInBounds_toArray, List.set_cons_zero, List.set_cons_succ, i64_w, i32_w]
                    rfl
                   refine on_ 17 (some 48) (fun K hK => ?_)
                   refine Kd.S_append_step (Kd.slice 2 (Kd.int .i64)) (w0 := w) w.heap.size (by rfl) (.tmp 31) (.tmp 47) 22 23 (.slice none 0 0) 24 rfl Try.underlying22 info23 rfl (by decide) (by omega) u5 x5_2 y192 [.slice Ao26 y192.length co26] (fun _ => True) (fun k_ => some k_ = (.slice Ao26 y192.length co26 : Value).ownBlock) rfl rfl ?aP (fun k_ hk_ => ((Kd.R_mono (ok' := fun k_ => ((fun _ => True)) k_ ∧ some k_ ≠ (u5 : Value).ownBlock) (Kd.R_apart' (HO194.out) (Kd.S_typed HO_5.out) (by decide)) (fun k_ hk => ⟨trivial, hk.2⟩))).1 k_ hk_.symm) ?aF ?aO ?aB ?aS ?aL ?_
                   (case aP => exact Kd.M_row (Kd.R_mono (Kd.R_tight rfl (Kd.R_mono (ok' := fun k_ => ((fun _ => True)) k_ ∧ some k_ ≠ (u5 : Value).ownBlock) (Kd.R_apart' (HO194.out) (Kd.S_typed HO_5.out) (by decide)) (fun k_ hk => ⟨trivial, hk.2⟩))) (fun _ h_ => h_)))
                   (case aB => exact hb_)
                   (case aF => exact (fun _ _ => trivial))
                   (case aO => exact (by (with_reducible repeat (first | apply Kd.S_alloc | apply Kd.S_drewN | apply Kd.S_drew)); exact Kd.S_mono HO_5.out (fun k_ hk => ⟨trivial, fun e_ => hk.2 e_⟩)))
                   (case aS => exact bz_)
                   (case aL => have := LMc19.out; omega)
                   intro v196 w25 ho hb hg hat
                   rw [← Ny195.out] at ho
                   have n0_ := Aside0.mk (hb)
                   have n1_ := Aside0.mk (ho)
                   clear HB
                   clear HO_5
                   clear HO194
                   have HB := n0_
                   have HO197 := n1_
                   clear n0_ n1_
                   clear ho hb hg hat
                   refine hK.out _ _ ⟨((HB.out.cell (World.block_lt_of_cell? w _ hw185_0)).trans hw185_0), ((HB.out.cell (World.block_lt_of_cell? w _ hw190_0)).trans hw190_0)⟩ (fun hHeld => ?_)
                   clear hK K
                   refine norm_ (a' := ?_) ?_ ?_
                   rotate_left
                   ·show Act.put _ (some 48) _ = _
                    simp only [Act.put, List.setIfInBounds_toArray, List.set_cons_zero, List.set_cons_succ, i64_w, i32_w]
                    rfl
                   refine pu_ 18 5 ?_
                   refine done_ (done_of HT_.out (by kernel_rfl)) ?_
                   try go_wp2
                   go_roundg k2
                   case measure => have := HK1.out; have := HK2.out; omega
                   case rel => exact ⟨(y195), (wrap64 (x6_2 + 1)), (by first | rfl | (simp; done) | (simp [*]; done)), H', ⟨by have := HK1.out; have := HK2.out; omega⟩, ⟨so_ HO197.out⟩, ⟨hb_⟩⟩
                  ·rw [if_neg c19] at H
                   exact absurd H (by simp)
                 ·rw [if_neg c18] at H
                  exact absurd H (by simp)
                ·rw [if_neg c17] at H
                 exact absurd H (by simp)
               ·rw [if_neg c16] at H
                exact absurd H (by simp)
              ·rw [if_neg c13] at H
               exact absurd H (by simp)
             ·rw [if_neg c12] at H
              exact absurd H (by simp)
            ·rw [if_neg c11] at H
             exact absurd H (by simp)
           ·rw [if_neg c10] at H
            have c10b0 : decide (x6_2 < (l0.length : Int)) = false := decide_eq_false c10
            clear c10
            by_cases c27 : 0 < (l0.length : Int)
            ·rw [if_pos c27] at H
             have c27b0 : decide (0 < (l0.length : Int)) = true := decide_eq_true c27
             have c27b1 : decide (0 < l0.length) = true := decide_eq_true (by omega)
             clear c27
             by_cases c28 : 0 ≤ x4_1
             ·rw [if_pos c28] at H
              have c28b0 : decide (0 ≤ x4_1) = true := decide_eq_true c28
              clear c28
              by_cases c29 : x4_1 < ((rd_L1 l0 0).length : Int)
              ·rw [if_pos c29] at H
               have c29b0 : decide (x4_1 < ((rd_L1 l0 0).length : Int)) = true := decide_eq_true c29
               clear c29
               replace H := Option.bind_eq_some_iff.mp H
               obtain ⟨t200, A300, H⟩ := H
               replace H : (if (Int.tmod x4_1 2) = 1 then (spec_l01Det.l0 k2 l0 (wrap64 (x3_1 + (wrap64 (-(wrap64 ((rd (rd_L1 l0 0) x4_1) * t200)))))) (wrap64 (x4_1 + 1))) else (spec_l01Det.l0 k2 l0 (wrap64 (x3_1 + (wrap64 ((rd (rd_L1 l0 0) x4_1) * t200)))) (wrap64 (x4_1 + 1)))) = some r := H
               have A30 := Aside0.mk A300
               clear A300
               by_cases c31 : (Int.tmod x4_1 2) = 1
               ·rw [if_pos c31] at H
                have c31b0 : ((Int.tmod x4_1 2) == 1) = true := beq_iff_eq.mpr c31
                have c31b1 : ((Int.tmod x4_1 2) != 1) = false := bne_eq_false_iff_eq.mpr c31
                clear c31
                have H' := Aside0.mk H
                clear H
                try go_wp2
                have n0_ := Aside0.mk (Kd.S_drew HO_5.out)
                have n1_ := Aside0.mk (below_drew1 HB.out)
                clear HO_5
                clear HB
                have HO_5 := n0_
                have HB := n1_
                clear n0_ n1_
                have p198 : 0 ≤ (0 : Int) := (by omega)
                have q198 : 0 < (l0.length : Int) := of_decide_eq_true (by first | (with_reducible assumption) | assumption)
                obtain ⟨ad198, A198_0, c198_0, e198, hx198_0, hl198_0, hi198_0⟩ := at_L1 HR0.out 0 p198 q198
                have hw198_0 := hx198_0
                (try rw [show ((0 : Int)).toNat = 0 from rfl] at hw198_0)
                (try rw [show 0 * 1 = 0 from rfl] at hw198_0)
                (try rw [Addr.add_zero'] at hw198_0)
                obtain rfl : ad180 = ad198 := (by injection e198)
                have qi198 : (0 < l0.length) = True := eq_true (by omega)
                (try rw [show ((0 : Int)).toNat = 0 from rfl] at hx198_0)
                (try rw [Addr.add_zero'] at hx198_0)
                replace hx198_0 := (HB.out.cell (World.block_lt_of_cell? w _ hx198_0)).trans hx198_0
                have HR198_0 := Aside0.mk hi198_0
                have HC198_0 := Aside0.mk hl198_0
                clear hi198_0 hl198_0
                replace p198 := eq_true p198
                replace q198 := eq_true q198
                have p199 : 0 ≤ (x4_1 : Int) := of_decide_eq_true (by first | (with_reducible assumption) | assumption)
                have q199 : x4_1 < ((rd_L1 l0 0).length : Int) := of_decide_eq_true (by first | (with_reducible assumption) | assumption)
                obtain ⟨ad199, e199, hx199_0⟩ := Kd.at_int HR198_0.out x4_1 p199 q199
                have hw199_0 := hx199_0
                cases e199
                replace hx199_0 := (HB.out.cell (World.block_lt_of_cell? w _ hx199_0)).trans hx199_0
                replace p199 := eq_true p199
                replace q199 := eq_true q199
                obtain ⟨Ao33, co33, eo33⟩ := Kd.S_slice HO_5.out
                (first | subst eo33 | (injection eo33 with f1_ f2_ f3_; have f4_ := f1_.symm; have f5_ := f3_.symm; clear f1_ f2_ f3_; subst f4_; subst f5_))
                refine st_ (n := 10) (S := fun w' => w'.cell? ad180 = some (.slice (some ad199) (rd_L1 l0 0).length c198_0) ∧ w'.cell? (ad199.add (x4_1).toNat) = some (.int .i64 (rd (rd_L1 l0 0) x4_1))) (ds := []) ⟨((HB.out.cell (World.block_lt_of_cell? w _ hw198_0)).trans hw198_0), ((HB.out.cell (World.block_lt_of_cell? w _ hw199_0)).trans hw199_0)⟩ (fun hHeld => ?_); refine with_tabW spec_l01Det.tab13 spec_l01Det.bits13 (fun HT_ HW_ => ?_)
                generalize wr.drew = w32 at HO_5 HB HR198_0 hx198_0 hx199_0 hHeld ⊢
                refine pu_ 0 49 ?_; refine pu_ 1 50 ?_; refine pu_ 3 52 ?_; refine pu_ 6 55 ?_; refine tk_ 2 51 ?_; refine pu_ 4 53 ?_; refine tk_ 5 54 ?_
                refine on_ 7 (some 56) (fun K hK => ?_)
                refine goes_ Try.func136 (by kernel_rfl) rfl #[.slice Ao33 x5_2.length co33] (by rfl) rfl rfl (by (try simp only [List.map_toArray, List.map_cons, List.map_nil]); first | done | rfl | (simp only [List.length_drop, List.length_take]; rfl)) ?_
                with_reducible refine (ih k2 (by have := HK1.out; have := HK2.out; omega) _ _ x5_2 t200 _ ?side1 ?side2 A30.out).mono ?_
                (case side1 => repeat (first | exact (Kd.S_reads' HO_5.out).2.2 | (with_reducible refine Kd.C_alloc ?_ _) | (with_reducible refine Kd.C_drewN ?_ _) | (with_reducible refine Kd.C_drew ?_)))
                (case side2 => exact (Kd.S_reads' HO_5.out).2.1)
                rintro e w34 ⟨rfl, hb⟩
                refine ⟨_, rfl, ?_⟩
                have n0_ := Aside0.mk (Kd.S_below (so_ HO_5.out) hb)
                have n1_ := Aside0.mk (bs_ hb)
                clear HO_5
                clear HB
                have HO_5 := n0_
                have HB := n1_
                clear n0_ n1_
                (try clear hb)
                (try clear hb2)
                (try clear hk)
                (try clear hi)
                refine hK.out _ _ ⟨((HB.out.cell (World.block_lt_of_cell? w _ hw198_0)).trans hw198_0), ((HB.out.cell (World.block_lt_of_cell? w _ hw199_0)).trans hw199_0)⟩ (fun hHeld => ?_)
                clear hK K
                refine norm_ (a' := ?_) ?_ ?_
                rotate_left
                ·show Act.put _ (some 56) _ = _
                 simp only [Act.put, List.setIfInBounds_toArray, List.set_cons_zero, List.set_cons_succ, i64_w, i32_w]
                 rfl
                refine pu_ 8 57 ?_; refine pu_ 9 7 ?_
                refine done_ (done_of HT_.out (by kernel_rfl)) ?_
                try go_wp2
                go_roundg k2
                case measure => have := HK1.out; have := HK2.out; omega
                case rel => exact ⟨(wrap64 (x3_1 + (wrap64 (-(wrap64 ((rd (rd_L1 l0 0) x4_1) * t200)))))), (wrap64 (x4_1 + 1)), (by first | rfl | (simp; done) | (simp [*]; done)), (by first | rfl | (simp; done) | (simp [*]; done)), H', ⟨by have := HK1.out; have := HK2.out; omega⟩, ⟨hb_⟩⟩
               ·rw [if_neg c31] at H
                have c31b0 : ((Int.tmod x4_1 2) == 1) = false := beq_eq_false_iff_ne.mpr c31
                have c31b1 : ((Int.tmod x4_1 2) != 1) = true := bne_iff_ne.mpr c31
                have H' := Aside0.mk H
                clear H
                try go_wp2
                have n0_ := Aside0.mk (Kd.S_drew HO_5.out)
                have n1_ := Aside0.mk (below_drew1 HB.out)
                clear HO_5
                clear HB
                have HO_5 := n0_
                have HB := n1_
                clear n0_ n1_
                have p198 : 0 ≤ (0 : Int) := (by omega)
                have q198 : 0 < (l0.length : Int) := of_decide_eq_true (by first | (with_reducible assumption) | assumption)
                obtain ⟨ad198, A198_0, c198_0, e198, hx198_0, hl198_0, hi198_0⟩ := at_L1 HR0.out 0 p198 q198
                have hw198_0 := hx198_0
                (try rw [show ((0 : Int)).toNat = 0 from rfl] at hw198_0)
                (try rw [show 0 * 1 = 0 from rfl] at hw198_0)
                (try rw [Addr.add_zero'] at hw198_0)
                obtain rfl : ad180 = ad198 := (by injection e198)
                have qi198 : (0 < l0.length) = True := eq_true (by omega)
                (try rw [show ((0 : Int)).toNat = 0 from rfl] at hx198_0)
                (try rw [Addr.add_zero'] at hx198_0)
                replace hx198_0 := (HB.out.cell (World.block_lt_of_cell? w _ hx198_0)).trans hx198_0
                have HR198_0 := Aside0.mk hi198_0
                have HC198_0 := Aside0.mk hl198_0
                clear hi198_0 hl198_0
                replace p198 := eq_true p198
                replace q198 := eq_true q198
                have p199 : 0 ≤ (x4_1 : Int) := of_decide_eq_true (by first | (with_reducible assumption) | assumption)
                have q199 : x4_1 < ((rd_L1 l0 0).length : Int) := of_decide_eq_true (by first | (with_reducible assumption) | assumption)
                obtain ⟨ad199, e199, hx199_0⟩ := Kd.at_int HR198_0.out x4_1 p199 q199
                have hw199_0 := hx199_0
                cases e199
                replace hx199_0 := (HB.out.cell (World.block_lt_of_cell? w _ hx199_0)).trans hx199_0
                replace p199 := eq_true p199
                replace q199 := eq_true q199
                obtain ⟨Ao36, co36, eo36⟩ := Kd.S_slice HO_5.out
                (first | subst eo36 | (injection eo36 with f1_ f2_ f3_; have f4_ := f1_.symm; have f5_ := f3_.symm; clear f1_ f2_ f3_; subst f4_; subst f5_))
                refine st_ (n := 10) (S := fun w' => w'.cell? ad180 = some (.slice (some ad199) (rd_L1 l0 0).length c198_0) ∧ w'.cell? (ad199.add (x4_1).toNat) = some (.int .i64 (rd (rd_L1 l0 0) x4_1))) (ds := []) ⟨((HB.out.cell (World.block_lt_of_cell? w _ hw198_0)).trans hw198_0), ((HB.out.cell (World.block_lt_of_cell? w _ hw199_0)).trans hw199_0)⟩ (fun hHeld => ?_); refine with_tabW spec_l01Det.tab13 spec_l01Det.bits13 (fun HT_ HW_ => ?_)
                generalize wr.drew = w35 at HO_5 HB HR198_0 hx198_0 hx199_0 hHeld ⊢
                refine pu_ 0 49 ?_; refine pu_ 1 50 ?_; refine pu_ 3 52 ?_; refine pu_ 6 55 ?_; refine tk_ 2 51 ?_; refine pu_ 4 53 ?_; refine tk_ 5 54 ?_
                refine on_ 7 (some 56) (fun K hK => ?_)
                refine goes_ Try.func136 (by kernel_rfl) rfl #[.slice Ao36 x5_2.length co36] (by rfl) rfl rfl (by (try simp only [List.map_toArray, List.map_cons, List.map_nil]); first | done | rfl | (simp only [List.length_drop, List.length_take]; rfl)) ?_
                with_reducible refine (ih k2 (by have := HK1.out; have := HK2.out; omega) _ _ x5_2 t200 _ ?side1 ?side2 A30.out).mono ?_
                (case side1 => repeat (first | exact (Kd.S_reads' HO_5.out).2.2 | (with_reducible refine Kd.C_alloc ?_ _) | (with_reducible refine Kd.C_drewN ?_ _) | (with_reducible refine Kd.C_drew ?_)))
                (case side2 => exact (Kd.S_reads' HO_5.out).2.1)
                rintro e w37 ⟨rfl, hb⟩
                refine ⟨_, rfl, ?_⟩
                have n0_ := Aside0.mk (Kd.S_below (so_ HO_5.out) hb)
                have n1_ := Aside0.mk (bs_ hb)
                clear HO_5
                clear HB
                have HO_5 := n0_
                have HB := n1_
                clear n0_ n1_
                (try clear hb)
                (try clear hb2)
                (try clear hk)
                (try clear hi)
                refine hK.out _ _ ⟨((HB.out.cell (World.block_lt_of_cell? w _ hw198_0)).trans hw198_0), ((HB.out.cell (World.block_lt_of_cell? w _ hw199_0)).trans hw199_0)⟩ (fun hHeld => ?_)
                clear hK K
                refine norm_ (a' := ?_) ?_ ?_
                rotate_left
                ·show Act.put _ (some 56) _ = _
                 simp only [Act.put, List.setIfInBounds_toArray, List.set_cons_zero, List.set_cons_succ, i64_w, i32_w]
                 rfl
                refine pu_ 8 57 ?_; refine pu_ 9 7 ?_
                refine done_ (done_of HT_.out (by kernel_rfl)) ?_
                try go_wp2
                go_roundg k2
                case measure => have := HK1.out; have := HK2.out; omega
                case rel => exact ⟨(wrap64 (x3_1 + (wrap64 ((rd (rd_L1 l0 0) x4_1) * t200)))), (wrap64 (x4_1 + 1)), (by first | rfl | (simp; done) | (simp [*]; done)), (by first | rfl | (simp; done) | (simp [*]; done)), H', ⟨by have := HK1.out; have := HK2.out; omega⟩, ⟨hb_⟩⟩
              ·rw [if_neg c29] at H
               exact absurd H (by simp)
             ·rw [if_neg c28] at H
              exact absurd H (by simp)
            ·rw [if_neg c27] at H
             exact absurd H (by simp)
       ·rw [if_neg c6] at H
        exact absurd H (by simp)
      ·rw [if_neg c5] at H
       exact absurd H (by simp)
     ·rw [if_neg c4] at H
      exact absurd H (by simp)
    ·rw [if_neg c3] at H
     have c3b0 : decide (x4_1 < (l0.length : Int)) = false := decide_eq_false c3
     clear c3
     obtain rfl := Option.some.inj H
     go_wp2
     go_ret
     exact ⟨by first | rfl | (simp [errW_none, errW_some] <;> rfl) | (simp [*, errW_none, errW_some] <;> rfl), hb_⟩
mutual
def spec_l01Solve.l0 : Nat → List (List Int) → List Int → List Int → Int → Option (List Int × Int)
 | 0, _, _, _, _ => none
 | k + 1, x0, x1, x6, x7 => if x7 < (x0.length : Int) then (spec_l01Solve.l1 k x0 x1 x6 x7 (([] : List (List Int))) 0) else ((spec_l01Det.f k x0).bind fun t204 => (some (x6, t204)))
def spec_l01Solve.l1 : Nat → List (List Int) → List Int → List Int → Int → List (List Int) → Int → Option (List Int × Int)
 | 0, _, _, _, _, _, _ => none
 | k + 1, x0, x1, x6, x7, x8, x9 => if x9 < (x0.length : Int) then (if 0 ≤ x9 then ((spec_l01Own.f (rd_L1 x0 x9)).bind fun t209 => (if x9 < (x1.length : Int) then (if 0 ≤ x7 then (if x7 < (t209.length : Int) then (if x8.length < 5864062014805 then (spec_l01Solve.l1 k x0 x1 x6 x7 (x8 ++ [(t209.set (x7 : Int).toNat (rd x1 x9))]) (wrap64 (x9 + 1))) else (none)) else (none)) else (none)) else (none))) else (none)) else ((spec_l01Det.f k x8).bind fun t217 => (if x6.length < 17592186044416 then (spec_l01Solve.l0 k x0 x1 (x6 ++ [t217]) (wrap64 (x7 + 1))) else (none)))
end
def spec_l01Solve.f (k : Nat) (l0 : List (List Int)) (l1 : List Int) : Option (List Int × Int) := spec_l01Solve.l0 k l0 l1 (([] : List Int)) 0
theorem spec_l01Solve.mono_l : ∀ k, (∀ y0 y1 y2 y3, LeO (spec_l01Solve.l0 k y0 y1 y2 y3) (spec_l01Solve.l0 (k + 1) y0 y1 y2 y3)) ∧ (∀ y0 y1 y2 y3 y4 y5, LeO (spec_l01Solve.l1 k y0 y1 y2 y3 y4 y5) (spec_l01Solve.l1 (k + 1) y0 y1 y2 y3 y4 y5))
 | 0 => ⟨fun _ _ _ _ r h => by simp [spec_l01Solve.l0] at h, fun _ _ _ _ _ _ r h => by simp [spec_l01Solve.l1] at h⟩
 | k + 1 => by
  obtain ⟨ih0, ih1⟩ := spec_l01Solve.mono_l k
  refine ⟨?_, ?_⟩
  ·intro y0 y1 y2 y3
   unfold spec_l01Solve.l0
   repeat' first
   | (with_reducible exact ih0 _ _ _ _)
   | (with_reducible exact ih1 _ _ _ _ _ _)
   | (with_reducible exact spec_l01Det.mono _ _)
   | (with_reducible exact LeO.refl _)
   | (with_reducible exact LeO.none _)
   | (with_reducible refine LeO.ite ?_ ?_)
   | (with_reducible refine LeO.bind ?_ (fun _ => ?_))
   | exact ih0 _ _ _ _
   | exact ih1 _ _ _ _ _ _
   | exact spec_l01Det.mono _ _
   | exact LeO.none _
   | refine LeO.ite ?_ ?_
   | refine LeO.bind ?_ (fun _ => ?_)
  ·intro y0 y1 y2 y3 y4 y5
   unfold spec_l01Solve.l1
   repeat' first
   | (with_reducible exact ih0 _ _ _ _)
   | (with_reducible exact ih1 _ _ _ _ _ _)
   | (with_reducible exact spec_l01Det.mono _ _)
   | (with_reducible exact LeO.refl _)
   | (with_reducible exact LeO.none _)
   | (with_reducible refine LeO.ite ?_ ?_)
   | (with_reducible refine LeO.bind ?_ (fun _ => ?_))
   | exact ih0 _ _ _ _
   | exact ih1 _ _ _ _ _ _
   | exact spec_l01Det.mono _ _
   | exact LeO.none _
   | refine LeO.ite ?_ ?_
   | refine LeO.bind ?_ (fun _ => ?_)
theorem spec_l01Solve.mono : ∀ a0 a1 k, LeO (spec_l01Solve.f k a0 a1) (spec_l01Solve.f (k + 1) a0 a1) := by
 intro a0 a1 k
 obtain ⟨ih0, ih1⟩ := spec_l01Solve.mono_l k
 unfold spec_l01Solve.f
 repeat' first
   | (with_reducible exact ih0 _ _ _ _)
   | (with_reducible exact ih1 _ _ _ _ _ _)
   | (with_reducible exact spec_l01Det.mono _ _)
   | (with_reducible exact LeO.refl _)
   | (with_reducible exact LeO.none _)
   | (with_reducible refine LeO.ite ?_ ?_)
   | (with_reducible refine LeO.bind ?_ (fun _ => ?_))
   | exact ih0 _ _ _ _
   | exact ih1 _ _ _ _ _ _
   | exact spec_l01Det.mono _ _
   | exact LeO.none _
   | refine LeO.ite ?_ ?_
   | refine LeO.bind ?_ (fun _ => ?_)
theorem spec_l01Solve.calls (k : Nat) (A0 : Option Addr) (c0 : Nat) (l0 : List (List Int)) (A1 : Option Addr) (c1 : Nat) (l1 : List Int) (r1 : List Int) (r2 : Int) (w : World) (hr0 : Kd.C (Kd.slice 2 (Kd.int .i64)) w A0 l0.length l0) (hc0 : l0.length ≤ c0) (hr1 : Kd.C (Kd.int .i64) w A1 l1.length l1) (hc1 : l1.length ≤ c1) (h : spec_l01Solve.f k l0 l1 = some (r1, r2)) :
  Calls Try.prog 103 #[.slice A0 l0.length c0, .slice A1 l1.length c1] w fun e w' => ∃ v0_ : Value, e = .returned (.tuple #[v0_, .int .i64 r2]) ∧ Kd.R (Kd.int .i64) 2 w' w.heap.size (fun _ => True) v0_ r1 ∧ Below w.heap.size w w' := by
 have HR0 := Aside0.mk hr0
 have HC0 := Aside0.mk hc0
 clear hr0 hc0
 have HR1 := Aside0.mk hr1
 have HC1 := Aside0.mk hc1
 clear hr1 hc1
 have HB := Aside0.mk (Below.refl w.heap.size w)
 have H : (spec_l01Solve.l0 k l0 l1 (([] : List Int)) 0) = some (r1, r2) := h
 clear h
 obtain ⟨y201, hy201⟩ : ∃ y_ : List Int, y_ = (([] : List Int)) := ⟨_, rfl⟩
 replace H : (spec_l01Solve.l0 k l0 l1 y201 0) = some (r1, r2) := by first | (rw [hy201]; with_reducible exact H) | (have H2_ := (Option.bind_some _ _).symm.trans H; rw [hy201]; with_reducible exact H2_) | (have H2_ := (Option.bind_some _ _).symm.trans H; with_reducible exact H2_) | with_reducible exact H | (rw [hy201]; exact H) | exact H
 have Ny201 := Aside0.mk hy201
 clear hy201
 have H' := Aside0.mk H
 clear H
 go_enter Try.func103, Try.ntmps103
 go_wp2_with (first | ((with_reducible refine gate_dst (N := 11) rfl ?_); refine Kd.R_lit (Kd.int .i64) _ 2 ?hg (N := 11) ?hd (xs := ([] : List Int)) (inner := []) (ok := fun _ => True) (okp := fun _ => True) ?hr ?hp (fun _ hk => hk) trivial (Below.refl _ _) (Nat.le_refl _) (by simp) ?_; (case hd => rfl); (case hg => rfl); (case hr => first | (go_simp; done) | (go_simp; rfl)); (case hp => exact (Reps.none _ _)); intro v202 w3 ho4 hb hg_ hnew_; clear hg_ hnew_; (first | rw [← Ny201.out] at ho4 | (simp only [Int.reduceToNat] at ho4; rw [← Ny201.out] at ho4)); have n0_ := Aside0.mk (Kd.R_lower ho4 bz_); have n1_ := Aside0.mk (bs_ hb); clear HB; have HO203 := n0_; have HB := n1_; clear n0_ n1_; clear hb ho4))
 go_loopg [6, 7] k (fun kq v6 v7 w' => ∃ (x6_1 : List Int) (x7_1 : Int), v7 = .int .i64 x7_1 ∧ Aside0 (spec_l01Solve.l0 kq l0 l1 x6_1 x7_1 = some (r1, r2)) ∧ Aside0 (kq ≤ k) ∧ Aside0 (Kd.R (Kd.int .i64) 2 w' w.heap.size (fun _ => True) v6 x6_1) ∧ Aside0 (Below w.heap.size w w'))
 case atStart => exact ⟨(y201), (0), (by first | rfl | (simp; done) | (simp [*]; done)), H', ⟨Nat.le_refl _⟩, ⟨ro_ HO203.out⟩, ⟨hb_⟩⟩
 case round =>
  clear H'
  try clear c1
  try clear p2
  obtain ⟨x6_1, x7_1, rfl, HA, HK1, HO_6, HB⟩ := hrel
  cases gk with
  | zero => exact absurd HA.out (by simp [spec_l01Solve.l0])
  | succ k1 =>
   have H := HA.out
   clear HA
   simp only [spec_l01Solve.l0] at H
   by_cases c5 : x7_1 < (l0.length : Int)
   ·rw [if_pos c5] at H
    have c5b0 : decide (x7_1 < (l0.length : Int)) = true := decide_eq_true c5
    clear c5
    obtain ⟨y205, hy205⟩ : ∃ y_ : List (List Int), y_ = (([] : List (List Int))) := ⟨_, rfl⟩
    replace H : (spec_l01Solve.l1 k1 l0 l1 x6_1 x7_1 y205 0) = some (r1, r2) := by first | (rw [hy205]; with_reducible exact H) | (have H2_ := (Option.bind_some _ _).symm.trans H; rw [hy205]; with_reducible exact H2_) | (have H2_ := (Option.bind_some _ _).symm.trans H; with_reducible exact H2_) | with_reducible exact H | (rw [hy205]; exact H) | exact H
    have Ny205 := Aside0.mk hy205
    clear hy205
    have H' := Aside0.mk H
    clear H
    go_wp2_with (first | ((with_reducible refine gate_dst (N := 18) rfl ?_); refine Kd.S_lit (Kd.slice 2 (Kd.int .i64)) _ 23 ?hg (N := 18) ?hd (xs := ([] : List (List Int))) (inner := []) (ok := fun _ => True) (okp := fun _ => True) ?hr ?hp (fun _ hk => hk) trivial (Below.refl _ _) (Nat.le_refl _) (by simp) ?_; (case hd => rfl); (case hg => rfl); (case hr => first | (go_simp; done) | (go_simp; rfl)); (case hp => exact (Reps.none _ _)); intro v206 w6 ho7 hb hg_ hnew_; clear hg_ hnew_; (first | rw [← Ny205.out] at ho7 | (simp only [Int.reduceToNat] at ho7; rw [← Ny205.out] at ho7)); have n0_ := Aside0.mk (rb_ HO_6.out hb); have n1_ := Aside0.mk (Kd.S_lower (Kd.S_new' ho7 (Kd.R_lt (ro_ HO_6.out))) bz_); have n2_ := Aside0.mk (bs_ hb); clear HO_6; clear HB; have HO_6 := n0_; have HO207 := n1_; have HB := n2_; clear n0_ n1_ n2_; clear hb ho7))
    go_loopg [8, 9] k1 (fun kq v8 v9 w' => ∃ (x6_2 : List Int) (x8_2 : List (List Int)) (x9_2 : Int), v9 = .int .i64 x9_2 ∧ Aside0 (spec_l01Solve.l1 kq l0 l1 x6_2 x7_1 x8_2 x9_2 = some (r1, r2)) ∧ Aside0 (kq ≤ k1) ∧ Aside0 (Kd.R (Kd.int .i64) 2 w' w.heap.size (fun _ => True) u6 x6_2) ∧ Aside0 (Kd.S (Kd.slice 2 (Kd.int .i64)) 23 w' w.heap.size (fun k_ => some k_ ≠ (u6 : Value).ownBlock) v8 x8_2) ∧ Aside0 (Below w.heap.size w w'))
    case atStart => exact ⟨(x6_1), (y205), (0), (by first | rfl | (simp; done) | (simp [*]; done)), H', ⟨Nat.le_refl _⟩, ⟨ro_ HO_6.out⟩, ⟨by (with_reducible repeat (first | apply Kd.S_alloc | apply Kd.S_drewN | apply Kd.S_drew)); exact Kd.S_mono HO207.out (fun _ hk => hk.2)⟩, ⟨hb_⟩⟩
    case round =>
     clear H'
     try clear c1
     try clear p2
     try clear c5
     try clear c5b0
     try clear p2
     obtain ⟨x6_2, x8_2, x9_2, rfl, HA, HK2, HO_6, HO_8, HB⟩ := hrel
     cases gk with
     | zero => exact absurd HA.out (by simp [spec_l01Solve.l1])
     | succ k2 =>
      have H := HA.out
      clear HA
      simp only [spec_l01Solve.l1] at H
      by_cases c8 : x9_2 < (l0.length : Int)
      ·rw [if_pos c8] at H
       have c8b0 : decide (x9_2 < (l0.length : Int)) = true := decide_eq_true c8
       clear c8
       by_cases c9 : 0 ≤ x9_2
       ·rw [if_pos c9] at H
        have c9b0 : decide (0 ≤ x9_2) = true := decide_eq_true c9
        clear c9
        replace H := Option.bind_eq_some_iff.mp H
        obtain ⟨t209, A100, H⟩ := H
        replace H : (if x9_2 < (l1.length : Int) then (if 0 ≤ x7_1 then (if x7_1 < (t209.length : Int) then (if x8_2.length < 5864062014805 then (spec_l01Solve.l1 k2 l0 l1 x6_2 x7_1 (x8_2 ++ [(t209.set (x7_1 : Int).toNat (rd l1 x9_2))]) (wrap64 (x9_2 + 1))) else (none)) else (none)) else (none)) else (none)) = some (r1, r2) := H
        have A10 := Aside0.mk A100
        clear A100
        by_cases c11 : x9_2 < (l1.length : Int)
        ·rw [if_pos c11] at H
         have c11b0 : decide (x9_2 < (l1.length : Int)) = true := decide_eq_true c11
         clear c11
         by_cases c12 : 0 ≤ x7_1
         ·rw [if_pos c12] at H
          have c12b0 : decide (0 ≤ x7_1) = true := decide_eq_true c12
          clear c12
          by_cases c13 : x7_1 < (t209.length : Int)
          ·rw [if_pos c13] at H
           have c13b0 : decide (x7_1 < (t209.length : Int)) = true := decide_eq_true c13
           clear c13
           obtain ⟨y213, hy213⟩ : ∃ y_ : List Int, y_ = (t209.set (x7_1 : Int).toNat (rd l1 x9_2)) := ⟨_, rfl⟩
           replace H : (if x8_2.length < 5864062014805 then (spec_l01Solve.l1 k2 l0 l1 x6_2 x7_1 (x8_2 ++ [y213]) (wrap64 (x9_2 + 1))) else (none)) = some (r1, r2) := by first | (rw [hy213]; with_reducible exact H) | (have H2_ := (Option.bind_some _ _).symm.trans H; rw [hy213]; with_reducible exact H2_) | (have H2_ := (Option.bind_some _ _).symm.trans H; with_reducible exact H2_) | with_reducible exact H | (rw [hy213]; exact H) | exact H
           have Ny213 := Aside0.mk hy213
           clear hy213
           by_cases c15 : x8_2.length < 5864062014805
           ·rw [if_pos c15] at H
            have LMc15 := Aside0.mk c15
            clear c15
            obtain ⟨y214, hy214⟩ : ∃ y_ : List (List Int), y_ = (x8_2 ++ [y213]) := ⟨_, rfl⟩
            replace H : (spec_l01Solve.l1 k2 l0 l1 x6_2 x7_1 y214 (wrap64 (x9_2 + 1))) = some (r1, r2) := by first | (rw [hy214]; with_reducible exact H) | (have H2_ := (Option.bind_some _ _).symm.trans H; rw [hy214]; with_reducible exact H2_) | (have H2_ := (Option.bind_some _ _).symm.trans H; with_reducible exact H2_) | with_reducible exact H | (rw [hy214]; exact H) | exact H
            have Ny214 := Aside0.mk hy214
            clear hy214
            have H' := Aside0.mk H
            clear H
            have p208 : 0 ≤ (x9_2 : Int) := of_decide_eq_true (by first | (with_reducible assumption) | assumption)
            have q208 : x9_2 < (l0.length : Int) := of_decide_eq_true (by first | (with_reducible assumption) | assumption)
            obtain ⟨ad208, A208_0, c208_0, e208, hx208_0, hl208_0, hi208_0⟩ := at_L1 HR0.out x9_2 p208 q208
            cases e208
            replace hx208_0 := (HB.out.cell (World.block_lt_of_cell? w _ hx208_0)).trans hx208_0
            have HR208_0 := Aside0.mk hi208_0
            have HC208_0 := Aside0.mk hl208_0
            clear hi208_0 hl208_0
            replace p208 := eq_true p208
            replace q208 := eq_true q208
            go_wp2_with (first | ((with_reducible refine gate_callee (f := 89) rfl ?_); refine goesL_ (some 29) rfl rfl Try.func89 (by kernel_rfl) rfl #[.slice A208_0 (rd_L1 l0 x9_2).length c208_0] rfl (by (try simp only [List.map_toArray, List.map_cons, List.map_nil]); first | done | rfl | (simp only [List.length_drop, List.length_take]; rfl)) ?_; (with_reducible refine (spec_l01Own.calls _ _ (rd_L1 l0 x9_2) t209 _ ?side1 ?side2 A10.out).mono ?_); (case side1 => exact cb_ HR208_0.out HB.out); (case side2 => exact HC208_0.out); rintro e w16 ⟨v210, rfl, ho0, hb⟩; refine ⟨_, rfl, ?_⟩; have n0_ := Aside0.mk (Kd.R_elder' (ro_ HO_6.out) (Kd.R_base ho0) hb); have n1_ := Aside0.mk (Kd.S_elder' (so_ HO_8.out) (Kd.R_base ho0) hb); have n2_ := Aside0.mk (Kd.R_lower (Kd.R_new' ho0 (Kd.R_lt (ro_ HO_6.out))) bz_); have n3_ := Aside0.mk (bs_ hb); clear HO_6; clear HO_8; clear HB; have HO_6 := n0_; have HO_8 := n1_; have HO211 := n2_; have HB := n3_; clear n0_ n1_ n2_ n3_; (try clear hb); (try clear hb2); (try clear hk); (try clear hi); (try clear ho0); have p212 : 0 ≤ (x9_2 : Int) := of_decide_eq_true (by first | (with_reducible assumption) | assumption); have q212 : x9_2 < (l1.length : Int) := of_decide_eq_true (by first | (with_reducible assumption) | assumption); obtain ⟨ad212, e212, hx212_0⟩ := Kd.at_int HR1.out x9_2 p212 q212; cases e212; replace hx212_0 := (HB.out.cell (World.block_lt_of_cell? w _ hx212_0)).trans hx212_0; replace p212 := eq_true p212; replace q212 := eq_true q212; have p14 : 0 ≤ (x7_1 : Int) := of_decide_eq_true (by first | (with_reducible assumption) | assumption); have q14 : (x7_1 : Int) < ((t209.length : Int) : Int) := of_decide_eq_true (by first | (with_reducible assumption) | assumption); obtain ⟨go14, co14, eo14, gb14, gl14, cl14, HG14⟩ := Kd.R_form HO211.out (by omega); (first | cases eo14 | (injection eo14 with ea_ en_ ec_; (first | subst ea_ | (injection ea_ with ea_; subst ea_)); subst ec_; clear en_)); have GB14 := Aside0.mk gb14; have GG14 := Aside0.mk HG14; clear gb14 gl14 HG14; obtain ⟨hx14_0, hf14_0⟩ := Kd.R_celln 0 HO211.out (x7_1 : Int) p14 q14; replace p14 := eq_true p14; replace q14 := eq_true q14; have n_ := Aside0.mk (Kd.R_mono (ok' := (fun k_ => some k_ ≠ (u6 : Value).ownBlock)) HO211.out (fun k_ hk => hk.2)); clear HO211; have HO211 := n_; clear n_; obtain ⟨hy17_, hz17_⟩ := Kd.R_celln 0 HO211.out (x7_1 : Int) (of_decide_eq_true (by first | (with_reducible assumption) | assumption)) (of_decide_eq_true (by first | (with_reducible assumption) | assumption)); have HP17 := Kd.R_putg HO211.out (x7_1 : Int) (rd l1 x9_2)) | ((with_reducible refine gate_store (t := 2) (p := 36) rfl ?_); refine store_event (t := 2) (p := 36) (v := ?vo_w18) (w1 := (w16.setCell ⟨go14, (x7_1 : Int).toNat, none⟩ (.int .i64 (rd l1 x9_2)))) ?hg ?ho ?hn ?hr ?_; (case ho => rfl); (case hg => rfl); (case hn => rfl); (case hr => first | (go_simp; done) | (go_simp; rfl)); intro w18 hw; have hg : w16.grownBy w18 (some go14) := (by rw [hw]; exact HP17.2); have hp_ : Kd.R (Kd.int .i64) 2 w18 w.heap.size (fun k_ => some k_ ≠ (u6 : Value).ownBlock) (.slice (some ⟨go14, 0, none⟩) t209.length co14) y213 := (by rw [hw, Ny213.out]; exact HP17.1); clear HP17; have n0_ := Aside0.mk (Kd.R_after (v := (.slice (some ⟨go14, 0, none⟩) t209.length co14)) (v1 := (.slice (some ⟨go14, 0, none⟩) t209.length co14)) (ok := (fun _ => True)) (ro_ HO_6.out) hg (.inl rfl)); have n1_ := Aside0.mk (Kd.S_after (v := (.slice (some ⟨go14, 0, none⟩) t209.length co14)) (v1 := (.slice (some ⟨go14, 0, none⟩) t209.length co14)) (ok := (fun k_ => some k_ ≠ (u6 : Value).ownBlock)) (so_ HO_8.out) hg (.inl rfl)); have n2_ := Aside0.mk (hp_); have n3_ := Aside0.mk ((by rw [hw]; exact below_set (HB.out) GB14.out : Below w.heap.size w w18)); clear HO_6; clear HO_8; clear HO211; clear HB; have HO_6 := n0_; have HO_8 := n1_; have HO211 := n2_; have HB := n3_; clear n0_ n1_ n2_ n3_; clear hg hw hp_) | ((with_reducible refine gate_builtin (b := .append) (xs := #[.tmp 37, .tmp 39]) rfl ?_); at_builtin; refine Kd.S_append (Kd.slice 2 (Kd.int .i64)) (w0 := w) w.heap.size rfl (.tmp 37) (.tmp 39) 22 23 (.slice none 0 0) 24 rfl Try.underlying22 info23 rfl (by decide) (by omega) u8 x8_2 y213 [.slice (some ⟨go14, 0, none⟩) t209.length co14] (fun k_ => some k_ ≠ (u6 : Value).ownBlock) (fun k_ => some k_ = (.slice (some ⟨go14, 0, none⟩) t209.length co14 : Value).ownBlock) rfl rfl ?aP (fun k_ hk_ => ((Kd.R_mono (ok' := fun k_ => ((fun k_ => some k_ ≠ (u6 : Value).ownBlock)) k_ ∧ some k_ ≠ (u8 : Value).ownBlock) (Kd.R_apart' (HO211.out) (Kd.S_typed HO_8.out) (by decide)) (fun k_ hk => ⟨hk.1, hk.2⟩))).1 k_ hk_.symm) ?aF ?aO ?aB ?aS ?aL ?_; (case aP => exact Kd.M_row (Kd.R_mono (Kd.R_tight rfl (Kd.R_mono (ok' := fun k_ => ((fun k_ => some k_ ≠ (u6 : Value).ownBlock)) k_ ∧ some k_ ≠ (u8 : Value).ownBlock) (Kd.R_apart' (HO211.out) (Kd.S_typed HO_8.out) (by decide)) (fun k_ hk => ⟨hk.1, hk.2⟩))) (fun _ h_ => h_))); (case aB => exact hb_); (case aF => exact (fun k_ hk => Kd.fresh' (Kd.R_lt (ro_ HO_6.out)) k_ hk)); (case aO => exact (by (with_reducible repeat (first | apply Kd.S_alloc | apply Kd.S_drewN | apply Kd.S_drew)); exact Kd.S_mono HO_8.out (fun k_ hk => ⟨hk.1, fun e_ => hk.2 e_⟩))); (case aS => exact bz_); (case aL => have := LMc15.out; omega); intro v215 w19 ho hb hg hat; rw [← Ny214.out] at ho; have n0_ := Aside0.mk (Kd.R_over' (ro_ HO_6.out) (Kd.S_typed (so_ HO_8.out)) (by decide) hg); have n1_ := Aside0.mk (hb); have n2_ := Aside0.mk (ho); clear HO_6; clear HB; clear HO_8; clear HO211; have HO_6 := n0_; have HB := n1_; have HO216 := n2_; clear n0_ n1_ n2_; clear ho hb hg hat))
            go_roundg k2
            case measure => have := HK1.out; have := HK2.out; omega
            case rel => exact ⟨(x6_2), (y214), (wrap64 (x9_2 + 1)), (by first | rfl | (simp; done) | (simp [*]; done)), H', ⟨by have := HK1.out; have := HK2.out; omega⟩, ⟨by (with_reducible repeat (first | apply Kd.R_alloc | apply Kd.R_drewN | apply Kd.R_drew)); exact Kd.R_mono HO_6.out (fun _ hk => trivial)⟩, ⟨so_ HO216.out⟩, ⟨hb_⟩⟩
           ·rw [if_neg c15] at H
            exact absurd H (by simp)
          ·rw [if_neg c13] at H
           exact absurd H (by simp)
         ·rw [if_neg c12] at H
          exact absurd H (by simp)
        ·rw [if_neg c11] at H
         exact absurd H (by simp)
       ·rw [if_neg c9] at H
        exact absurd H (by simp)
      ·rw [if_neg c8] at H
       have c8b0 : decide (x9_2 < (l0.length : Int)) = false := decide_eq_false c8
       clear c8
       replace H := Option.bind_eq_some_iff.mp H
       obtain ⟨t217, A200, H⟩ := H
       replace H : (if x6_2.length < 17592186044416 then (spec_l01Solve.l0 k2 l0 l1 (x6_2 ++ [t217]) (wrap64 (x7_1 + 1))) else (none)) = some (r1, r2) := H
       have A20 := Aside0.mk A200
       clear A200
       by_cases c21 : x6_2.length < 17592186044416
       ·rw [if_pos c21] at H
        have LMc21 := Aside0.mk c21
        clear c21
        obtain ⟨y218, hy218⟩ : ∃ y_ : List Int, y_ = (x6_2 ++ [t217]) := ⟨_, rfl⟩
        replace H : (spec_l01Solve.l0 k2 l0 l1 y218 (wrap64 (x7_1 + 1))) = some (r1, r2) := by first | (rw [hy218]; with_reducible exact H) | (have H2_ := (Option.bind_some _ _).symm.trans H; rw [hy218]; with_reducible exact H2_) | (have H2_ := (Option.bind_some _ _).symm.trans H; with_reducible exact H2_) | with_reducible exact H | (rw [hy218]; exact H) | exact H
        have Ny218 := Aside0.mk hy218
        clear hy218
        have H' := Aside0.mk H
        clear H
        obtain ⟨Ao22, co22, eo22⟩ := Kd.S_slice HO_8.out
        subst eo22
        go_wp2_with (first | ((with_reducible refine gate_callee (f := 136) rfl ?_); refine goesL_ (some 43) rfl rfl Try.func136 (by kernel_rfl) rfl #[.slice Ao22 x8_2.length co22] rfl (by (try simp only [List.map_toArray, List.map_cons, List.map_nil]); first | done | rfl | (simp only [List.length_drop, List.length_take]; rfl)) ?_; (with_reducible refine (spec_l01Det.calls k2 _ _ x8_2 t217 _ ?side1 ?side2 A20.out).mono ?_); (case side1 => repeat (first | exact (Kd.S_reads' HO_8.out).2.2 | (with_reducible refine Kd.C_alloc ?_ _) | (with_reducible refine Kd.C_drewN ?_ _) | (with_reducible refine Kd.C_drew ?_))); (case side2 => exact (Kd.S_reads' HO_8.out).2.1); rintro e w23 ⟨rfl, hb⟩; refine ⟨_, rfl, ?_⟩; have n0_ := Aside0.mk (rb_ HO_6.out hb); have n1_ := Aside0.mk (Kd.S_below (so_ HO_8.out) hb); have n2_ := Aside0.mk (bs_ hb); clear HO_6; clear HO_8; clear HB; have HO_6 := n0_; have HO_8 := n1_; have HB := n2_; clear n0_ n1_ n2_; (try clear hb); (try clear hb2); (try clear hk); (try clear hi)) | ((with_reducible refine gate_builtin (b := .append) (xs := #[.tmp 41, .tmp 44]) rfl ?_); at_builtin; refine Kd.R_append (Kd.int .i64) (w0 := w) w.heap.size rfl (.tmp 41) (.tmp 44) 23 2 (.int .i64 0) 8 rfl Try.underlying23 info2 rfl (by decide) (by omega) u6 x6_2 t217 [.int .i64 t217] (fun _ => True) (fun _ => False) rfl rfl ?aP (fun _ hk => hk.elim) ?aF ?aO ?aB ?aS ?aL ?_; (case aP => exact rfl); (case aB => exact hb_); (case aF => exact (fun _ _ => trivial)); (case aO => exact (ro_ HO_6.out)); (case aS => exact bz_); (case aL => have := LMc21.out; omega); intro v219 w24 ho hb hg hat; rw [← Ny218.out] at ho; have n0_ := Aside0.mk (Kd.S_after (ok := (fun _ => True)) (by (with_reducible repeat (first | apply Kd.S_alloc | apply Kd.S_drewN | apply Kd.S_drew)); exact Kd.S_mono HO_8.out (fun _ hk => ⟨trivial, hk⟩)) hg hat); have n1_ := Aside0.mk (hb); have n2_ := Aside0.mk (ho); clear HO_8; clear HB; clear HO_6; have HO_8 := n0_; have HB := n1_; have HO220 := n2_; clear n0_ n1_ n2_; clear ho hb hg hat))
        go_roundg k2
        case measure => have := HK1.out; have := HK2.out; omega
        case rel => exact ⟨(y218), (wrap64 (x7_1 + 1)), (by first | rfl | (simp; done) | (simp [*]; done)), H', ⟨by have := HK1.out; have := HK2.out; omega⟩, ⟨ro_ HO220.out⟩, ⟨hb_⟩⟩
       ·rw [if_neg c21] at H
        exact absurd H (by simp)
   ·rw [if_neg c5] at H
    have c5b0 : decide (x7_1 < (l0.length : Int)) = false := decide_eq_false c5
    clear c5
    replace H := Option.bind_eq_some_iff.mp H
    obtain ⟨t204, A250, H⟩ := H
    replace H : (some (x6_1, t204)) = some (r1, r2) := H
    have A25 := Aside0.mk A250
    clear A250
    simp only [Option.some.injEq, Prod.mk.injEq] at H
    obtain ⟨rfl, rfl⟩ := H
    go_wp2_with (first | ((with_reducible refine gate_callee (f := 136) rfl ?_); refine goesL_ (some 48) rfl rfl Try.func136 (by kernel_rfl) rfl #[.slice A0 l0.length c0] rfl (by (try simp only [List.map_toArray, List.map_cons, List.map_nil]); first | done | rfl | (simp only [List.length_drop, List.length_take]; rfl)) ?_; (with_reducible refine (spec_l01Det.calls k1 _ _ l0 t204 _ ?side1 ?side2 A25.out).mono ?_); (case side1 => exact cb_ HR0.out HB.out); (case side2 => exact HC0.out); rintro e w26 ⟨rfl, hb⟩; refine ⟨_, rfl, ?_⟩; have n0_ := Aside0.mk (rb_ HO_6.out hb); have n1_ := Aside0.mk (bs_ hb); clear HO_6; clear HB; have HO_6 := n0_; have HB := n1_; clear n0_ n1_; (try clear hb); (try clear hb2); (try clear hk); (try clear hi)))
    go_ret2
    exact ⟨_, by first | rfl | (simp [errW_none, errW_some] <;> rfl) | (simp [*, errW_none, errW_some] <;> rfl), ro_ HO_6.out, hb_⟩
end Go.Proofs.Ythdoilfjcgickaa.Pr
end
