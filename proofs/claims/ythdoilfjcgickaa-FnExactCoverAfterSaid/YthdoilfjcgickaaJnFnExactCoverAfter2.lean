/- Texts of one claim (the words of the kit's print that the claim uses, printed functions, and this session's own texts), joined in the order of their imports by this session's own program (merge.py). -/
import Derived.WalkLawsBesides
import Derived.Test.YthdoilfjcgickaaJnFnExactCoverAfter0
import Derived.Test.YthdoilfjcgickaaJnFnExactCoverAfter1
set_option linter.unusedVariables false
set_option linter.unusedSimpArgs false
set_option maxHeartbeats 8000000
set_option maxRecDepth 100000
section
namespace Go.Proofs.Ythdoilfjcgickaa.Lq
open Go.RowKit Go.Proofs.YthdoilfjcgickaaW.PrintWords Go.Proofs.YthdoilfjcgickaaW.PrintLast Go.Proofs.YthdoilfjcgickaaW.PrintMore Go.Proofs.Ythdoilfjcgickaa.Pr Go.Proofs.Ythdoilfjcgickaa.Ma Go.Proofs.Ythdoilfjcgickaa.Dt Go.Proofs.Ythdoilfjcgickaa.Lk Go.Proofs.Ythdoilfjcgickaa.Lt
theorem run1 (A : Option Addr) (c : Nat) (cv : List Int) (p4 i : Nat) (hi : i < cv.length) (w : World) (h4 : w.cell? ⟨p4, 0, none⟩ = some (.slice A cv.length c)) (hC : Kd.C (Kd.int .i64) w A cv.length cv) :
  Calls Try.prog 126 (#[.int .i64 (i : Int)] ++ #[.pointer (some ⟨p4, 0, none⟩)]) w fun e w' => e = .returned (.int .i64 (cv.getD i 0)) ∧ Below w.heap.size w w' := by
 show Calls Try.prog 126 #[.int .i64 (i : Int), .pointer (some ⟨p4, 0, none⟩)] w _
 obtain ⟨ad, eA, hx⟩ := Kd.at_int hC (i : Int) (by omega) (by omega)
 subst eA
 rw [Int.toNat_natCast, rd_nat] at hx
 have hiz : (i : Int) < (cv.length : Int) := by omega
 have h0z : (0 : Int) ≤ (i : Int) := by omega
 generalize cv.getD i 0 = x at hx ⊢
 generalize cv.length = l at *
 clear hC hi
 go_enter Try.func126, Try.ntmps126
 go_wp2
 go_ret
 exact ⟨rfl, Below.refl _ _⟩
theorem run1_enters : ∀ args w, (callFunc 126 args).run Try.prog w = .ok (.enter 126 args) w := enters_fn Try.func126 (by kernel_rfl) rfl
theorem S_type {α : Type} {d : Kd α} {e base g t : Nat} {ok : Nat → Prop} {W w1 : World} {u : Value} {xs : List α} {cs : Array Value} (h : Kd.S d e W base ok u xs) (hg : W.heap[g]? = some (.cells cs t (0, 0))) (ht : ∀ q, q ∈ e :: d.E → q ≠ t) (hs : ∀ k, k ≠ g → w1.heap[k]? = W.heap[k]?) : Kd.S d e w1 base ok u xs :=
 Kd.S_mono (Kd.S_step (Kd.S_bound h) (fun k hk hlt => hs k (fun e1 => by
  obtain ⟨_, _, _, q, hq, cells, hc⟩ := hk
  rw [e1, hg] at hc
  injection hc with h1
  injection h1 with _ h2 _
  exact ht q hq h2.symm))) (fun _ hk => hk.1)
theorem S_out {α : Type} {d : Kd α} {e lo hi : Nat} {ok : Nat → Prop} {W w1 : World} {u : Value} {xs : List α} (h : Kd.S d e W hi ok u xs) (F : Out W w1 lo hi) : Kd.S d e w1 hi ok u xs :=
 Kd.S_mono (Kd.S_step (Kd.S_bound h) (fun k hk hlt => F.same k hlt (.inr hk.2.1))) (fun _ hk => hk.1)
theorem hset (w : World) (g j : Nat) (v : Value) : ∀ k, k ≠ g → (w.setCell ⟨g, j, none⟩ v).heap[k]? = w.heap[k]? := fun k hk => Below.heap_setCell w ⟨g, j, none⟩ v k (by simp; exact hk)
def goN (n m q : Nat) (s : TS) (v : Nat) (st : List (List Int)) : Option Nat → TS × List (List Int) × Bool × Int × Int
 | none => (s, st, false, (v : Int), 0)
 | some r => goI n m q s v r st
theorem S_own {α : Type} {d : Kd α} {e base N : Nat} {W : World} {u : Value} {xs : List α} (h : Kd.S d e W base (fun k => k < N) u xs) : ∀ k, u.ownBlock = some k → k < N := by
 obtain ⟨f, h⟩ := h
 exact fun k hk => h.1 k hk
theorem S_ne {α : Type} {d : Kd α} {e base g t : Nat} {ok : Nat → Prop} {W : World} {u : Value} {xs : List α} {cs : Array Value} (h : Kd.S d e W base ok u xs) (hg : W.heap[g]? = some (.cells cs t (0, 0))) (ht : e ≠ t) : some g ≠ u.ownBlock := by
 obtain ⟨f, h⟩ := h
 exact Kd.R_ne h hg ht
theorem Out.hi {w w' : World} {b : Nat} (h : Below b w w') : Out w w' b w.heap.size := ⟨h.os, h.tape, h.output, h.size, fun k hk hn => h.block k (by omega)⟩
def PlE (w0 w' : World) (p n m : Nat) (s : TS) (st : List (List Int)) (solved : Bool) (ray code : Int) : Prop :=
 ∃ lo hi t u1, w0.heap.size ≤ lo ∧ lo ≤ hi ∧ hi ≤ p ∧ TmE w' lo hi t n m s ∧ w'.heap[p]? = some (.cells #[.pointer (some ⟨t, 0, none⟩), u1, .bool solved, .int .i64 ray, .int .i64 code] 109 (0, 0)) ∧ Kd.S (Kd.slice 2 (Kd.int .i64)) 23 w' hi (fun _ => True) u1 st
theorem run_calls (A0 : Option Addr) (c0 : Nat) (M : List (List Int)) (A1 : Option Addr) (c1 : Nat) (Q : List Int) (A2 : Option Addr) (c2 : Nat) (cv : List Int) (most : Nat) (w : World) (n : Nat)
  (hC0 : Kd.C (Kd.slice 2 (Kd.int .i64)) w A0 M.length M) (hC1 : Kd.C (Kd.int .i64) w A1 Q.length Q) (hC2 : Kd.C (Kd.int .i64) w A2 cv.length cv) (hc0 : M.length ≤ c0) (hc1 : Q.length ≤ c1) (hc2 : cv.length ≤ c2) (hM : M.length = n) (hQ : Q.length = n) (hr : ∀ x ∈ M, x.length = n) (hn : 0 < n) (hn2 : n ≤ 5) (hcv : cv.length = n)
  (hMb : ∀ i k, i < n → k < n → ((enL M) i k).natAbs ≤ 20) (hcb : ∀ i, i < n → 0 < cv.getD i 0 ∧ cv.getD i 0 ≤ 20) (hqb : ∀ i, i < n → (Q.getD i 0).natAbs ≤ 100)
  (R : TS × List (List Int) × Bool × Int × Int) (hR : runI n (enL M) (fun i => cv.getD i 0) (fun i => Q.getD i 0) most = R) :
  Calls Try.prog 94 #[.agg #[.slice A0 M.length c0, .slice A1 Q.length c1], .slice A2 cv.length c2, .int .i64 (most : Int)] w fun e w' => ∃ p, e = .returned (.pointer (some ⟨p, 0, none⟩)) ∧ PlE w w' p n (2 * n + 2) R.1 R.2.1 R.2.2.1 R.2.2.2.1 R.2.2.2.2 ∧ Below w.heap.size w w' := by
 have HB := Aside0.mk (Below.refl w.heap.size w)
 have HC0 := Aside0.mk hC0
 have HC1 := Aside0.mk hC1
 have HC2 := Aside0.mk hC2
 have HC1c := Aside0.mk hc1
 have HM := Aside0.mk hM
 have HQ := Aside0.mk hQ
 have HR := Aside0.mk hr
 have HN := Aside0.mk hn
 have HN2 := Aside0.mk hn2
 have HCV := Aside0.mk hcv
 have HMB := Aside0.mk hMb
 have HCB := Aside0.mk hcb
 have HQB := Aside0.mk hqb
 have HRR := Aside0.mk hR
 have HSM := Aside0.mk (first_small (n := n) (M := enL M) (cv := fun i => cv.getD i 0) (q := fun i => Q.getD i 0) hMb (fun i hi => by have := hcb i hi; omega) hqb)
 clear hMb hcb hqb hR
 clear hC0 hC1 hC2 hM hQ hr hn hn2 hcv hc0 hc1 hc2
 go_enter Try.func94, Try.ntmps94
 go_wp2_with (first | ((with_reducible refine gate_dst (N := 3) rfl ?_); refine box_event ?hg (N := 3) ?hd (cs := #[.slice A0 M.length c0, .slice A1 Q.length c1]) (t := 29) ?hr ?_; (case hd => rfl); (case hg => rfl); (case hr => first | (go_simp; done) | (go_simp; rfl)); intro g3 hg w3 hbox hb; replace HB := Aside0.mk (below_step HB.out hb); have B3 := Aside0.mk hbox; clear hb hbox hg) | ((with_reducible refine gate_dst (N := 4) rfl ?_); refine box_event ?hg (N := 4) ?hd (cs := #[.slice A2 cv.length c2]) (t := 23) ?hr ?_; (case hd => rfl); (case hg => rfl); (case hr => first | (go_simp; done) | (go_simp; rfl)); intro g4 hg w4 hbox hb; replace HB := Aside0.mk (below_step HB.out hb); replace B3 := Aside0.mk (blk_below B3.out hb); have B4 := Aside0.mk hbox; clear hb hbox hg))
 replace HB := Aside0.mk (below_step HB.out (below_drew (Below.refl w4.heap.size w4)))
 replace B3 := Aside0.mk (blk_below B3.out (below_drew (Below.refl w4.heap.size w4)))
 replace B4 := Aside0.mk (blk_below B4.out (below_drew (Below.refl w4.heap.size w4)))
 refine st_ (n := 9) (S := fun w' => w'.cell? ⟨g3, 0, none⟩ = some (.slice A0 M.length c0) ∧ w'.cell? ⟨g3, 1, none⟩ = some (.slice A1 Q.length c1) ∧ w'.cell? ⟨g4, 0, none⟩ = some (.slice A2 cv.length c2)) (ds := []) ⟨cz_ B3 0, cz_ B3 1, cz_ B4 0⟩ (fun hHeld => ?_)
 generalize w4.drew = w5 at HB B3 B4 hHeld ⊢
 refine tk_ 0 11 ?_; refine tk_ 1 12 ?_; refine pu_ 3 14 ?_; refine tk_ 4 15 ?_
 refine on_ 2 (some 13) (fun K hK => ?_)
 refine ca_ Try.func123 #[.agg #[.slice A0 M.length c0, .slice A1 Q.length c1], .slice A2 cv.length c2] ?_
 refine (newTable_calls A0 c0 M A1 c1 Q A2 c2 cv w5 n (Kd.C_below HC0.out HB.out) (Kd.C_below HC1.out HB.out) (Kd.C_below HC2.out HB.out) HM.out HQ.out HR.out HN.out (by have := HN2.out; omega) (.inr HCV.out) (2 * n + 2) (by rw [if_neg (by have := HCV.out; have := HN.out; omega)])).mono ?_
 rintro e w6 ⟨t, rfl, hT, hb⟩
 refine ⟨_, rfl, ?_⟩
 have HLO : Aside0 (w.heap.size ≤ w5.heap.size) := ⟨HB.out.size⟩
 have HLH : Aside0 (w5.heap.size ≤ w6.heap.size) := ⟨hb.size⟩
 obtain ⟨g, gb, cg, cb, b, cp, hT⟩ := hT
 have HT := Aside0.mk hT
 have HHI := Aside0.mk (Nat.le_refl w6.heap.size)
 replace HB := Aside0.mk (below_step HB.out hb)
 replace B3 := Aside0.mk (blk_below B3.out hb)
 replace B4 := Aside0.mk (blk_below B4.out hb)
 clear hT hb hHeld
 refine hK.out _ _ ⟨cz_ B3 0, cz_ B3 1, cz_ B4 0⟩ (fun hHeld => ?_)
 clear hK K
 refine no_ ?_
 obtain ⟨fz, hfz⟩ : ∃ fz, (!(Q.any badN)) = fz := ⟨_, rfl⟩
 have HFZ := Aside0.mk hfz
 clear hfz
 refine on_ 5 (some 16) (fun K hK => ?_)
 refine ca_ Try.func124 #[.slice A1 Q.length c1] ?_
 refine (impl_isFeasible.calls A1 c1 Q fz w6 (Kd.C_below HC1.out HB.out) HC1c.out (by unfold impl_isFeasible.f; rw [HFZ.out])).mono ?_
 rintro e w7 ⟨rfl, hb⟩
 refine ⟨_, rfl, ?_⟩
 replace HB := Aside0.mk (below_step HB.out hb)
 replace B3 := Aside0.mk (blk_below B3.out hb)
 replace B4 := Aside0.mk (blk_below B4.out hb)
 replace HT := Aside0.mk (HT.out.mvB hb)
 replace HHI := Aside0.mk (Nat.le_trans HHI.out hb.size)
 clear hb hHeld
 refine hK.out _ _ ⟨cz_ B3 0, cz_ B3 1, cz_ B4 0⟩ (fun hHeld => ?_)
 clear hK K
 refine no_ ?_
 refine pu_ 6 17 ?_
 refine on_ 7 (some 18) (fun K hK => ?_)
 refine box_step (by rfl) (N := 18) rfl (cs := #[.pointer (some ⟨t, 0, none⟩), .slice none 0 0, .bool fz, .int .i64 0, .int .i64 0]) (t := 109) (by first | (go_simp; done) | (go_simp; rfl)) ?_
 intro g7 hg w8 hbox hb
 have HG7 : Aside0 (w6.heap.size ≤ g7) := ⟨by rw [hg]; exact HHI.out⟩
 have B7 := Aside0.mk hbox
 replace HB := Aside0.mk (below_step HB.out hb)
 replace B3 := Aside0.mk (blk_below B3.out hb)
 replace B4 := Aside0.mk (blk_below B4.out hb)
 replace HT := Aside0.mk (HT.out.mvB hb)
 clear hb hHeld hbox hg HHI
 refine hK.out _ _ ⟨cz_ B3 0, cz_ B3 1, cz_ B4 0⟩ (fun hHeld => ?_)
 clear hK K
 refine nd_ 18 ?_
 refine pu_ 8 7 ?_
 refine done_ (by kernel_rfl) ?_
 generalize w5.heap.size = lo at *
 generalize w6.heap.size = hi at *
 replace HT := Aside0.mk (HT.out.congr (s' := first n (enL M) (fun i => cv.getD i 0) (fun i => Q.getD i 0)) (fun i j hi hj => first_at (by have := HCV.out; have := HN.out; omega) HMB.out (fun i hi => by have := HCB.out i hi; omega) i j hi hj) rfl rfl)
 have HOK := Aside0.mk (first_ok (n := n) (M := enL M) (cv := fun i => cv.getD i 0) (q := fun i => Q.getD i 0))
 obtain ⟨s0, hs0⟩ : ∃ s0 : TS, first n (enL M) (fun i => cv.getD i 0) (fun i => Q.getD i 0) = s0 := ⟨_, rfl⟩
 rw [hs0] at HT HOK
 have HS0 := Aside0.mk hs0
 clear hs0 hHeld B3
 have hn2' := HN2.out
 have hw2 : wrap64 (2 * (n : Int)) = 2 * (n : Int) := w64 (by omega) (by omega)
 have HW2 := Aside0.mk hw2
 clear hn2' hw2
 go_wp2
 replace HB := Aside0.mk (below_step HB.out (below_drew (Below.refl w8.heap.size w8)))
 replace B7 := Aside0.mk (blk_below B7.out (below_drew (Below.refl w8.heap.size w8)))
 replace B4 := Aside0.mk (blk_below B4.out (below_drew (Below.refl w8.heap.size w8)))
 replace HT := Aside0.mk (HT.out.mvB (below_drew (Below.refl w8.heap.size w8)))
 refine st_ (n := 16) (S := fun w' => w'.cell? ⟨g7, 0, none⟩ = some (.pointer (some ⟨t, 0, none⟩)) ∧ w'.cell? ⟨t, 3, none⟩ = some (.int .i64 (n : Int))) (ds := []) ⟨cz_ B7 0, HT.out.h3⟩ (fun hHeld => ?_)
 generalize w8.drew = w9 at HB B7 B4 HT hHeld ⊢
 have hw2 := HW2.out
 refine pu_ 0 19 ?_; refine pu_ 1 20 ?_; refine pu_ 2 21 ?_; refine tk_ 3 22 ?_; refine pu_ 4 23 ?_; refine pu_ 5 24 ?_; refine tk_ 6 25 ?_; refine pu_ 7 26 ?_; refine pu_ 8 27 ?_; refine pu_ 9 28 ?_; refine pu_ 10 29 ?_; refine tk_ 11 30 ?_; refine pu_ 12 31 ?_
 refine on_ 13 (some 32) (fun K hK => ?_)
 refine ca_ Try.func125 #[.pointer (some ⟨t, 0, none⟩), .func (.func 126) #[] #[.pointer (some ⟨g4, 0, none⟩)]] ?_
 obtain ⟨o0, ho0⟩ : ∃ o, rowJ s0.T n (2 * n + 2) (fun i => cv.getD i 0) n = o := ⟨_, rfl⟩
 have HO0 := Aside0.mk ho0
 refine (least_calls HT.out 126 #[.pointer (some ⟨g4, 0, none⟩)] (fun i => cv.getD i 0) run1_enters (fun W i hi hb => run1 A2 c2 cv g4 i (by rw [HCV.out]; exact hi) W ((blk_cell (blk_below B4.out hb) 0).trans rfl) (Kd.C_below HC2.out (below_step HB.out hb))) (by have := HN2.out; omega) (by omega) (by have := HN2.out; omega)).mono ?_
 rw [ho0]
 clear ho0
 rintro e w10 ⟨rfl, hb⟩
 refine ⟨_, rfl, ?_⟩
 replace HB := Aside0.mk (below_step HB.out hb)
 replace B7 := Aside0.mk (blk_below B7.out hb)
 replace HT := Aside0.mk (HT.out.mvB hb)
 clear hb hHeld B4
 refine hK.out _ _ ⟨cz_ B7 0, HT.out.h3⟩ (fun hHeld => ?_)
 clear hK K
 refine no_ ?_
 refine pu_ 14 8 ?_; refine pu_ 15 9 ?_
 refine done_ (by kernel_rfl) ?_
 clear hHeld hw2
 have HFE := Aside0.mk ((feas_eq (n := n) HQ.out).trans HFZ.out)
 have hmost := HN2.out
 cases fz with
 | true =>
  have HRE : Aside0 (R = (s0, [], true, 0, 0)) := ⟨by rw [← HRR.out]; unfold runI; rw [if_pos HFE.out, HS0.out]⟩
  clear HRR hmost
  go_wp2
  go_loopg [8, 9] 0 (fun gg _ _ wr => Aside0 (Below w.heap.size w wr) ∧ Aside0 (Tm wr lo hi t g gb n (2 * n + 2) cg cb b cp s0) ∧ Aside0 (wr.heap[g7]? = some (.cells #[.pointer (some ⟨t, 0, none⟩), .slice none 0 0, .bool true, .int .i64 0, .int .i64 0] 109 (0, 0))))
  case atStart => exact ⟨HB, HT, B7⟩
  case round =>
   clear HB HT B7
   obtain ⟨HB, HT, B7⟩ := hrel
   have hc1 := cz_ B7 1
   have hc2 := cz_ B7 2
   go_wp2
   go_ret
   refine ⟨_, rfl, ?_, HB.out⟩
   rw [HRE.out]
   exact ⟨lo, hi, t, _, HLO.out, HLH.out, HG7.out, ⟨g, gb, cg, cb, b, cp, HT.out⟩, B7.out, Kd.S_nil _ _ _ _ _⟩
 | false =>
  obtain ⟨r0, hr0⟩ : ∃ r0, rowB n (2 * n + 2) s0 (fun i => cv.getD i 0) = some r0 := by
   cases hq : rowB n (2 * n + 2) s0 (fun i => cv.getD i 0) with
   | none =>
    have h1 := rowB_none hq 0 HN.out
    have h2 := (HCB.out 0 HN.out).1
    exact absurd h1 (by show ¬ cv.getD 0 0 ≤ 0; omega)
   | some r => exact ⟨r, rfl⟩
  have hrj : rowJ s0.T n (2 * n + 2) (fun i => cv.getD i 0) n = some r0 := (rowJ_eq (fun i hi => by have := HCB.out i hi; exact ⟨by show -1920000000 ≤ cv.getD i 0; omega, by show cv.getD i 0 ≤ 1920000000; omega⟩) (fun a c ha hc => HOK.out.abs HN2.out HSM.out ha hc) (by omega)).trans hr0
  have HR0 := Aside0.mk (rowB_some hr0)
  have HRE : Aside0 (goI n (2 * n + 2) most s0 (2 * n) r0 [] = R) := ⟨by rw [← HRR.out]; unfold runI; rw [if_neg (by rw [HFE.out]; decide), HS0.out, hr0]⟩
  have HT0 : Aside0 (s0.T r0 (2 * n) ≠ 0) := ⟨by
   rw [← HS0.out]
   show tab0 n (enL M) (fun i => cv.getD i 0) (fun i => Q.getD i 0) r0 (2 * n) ≠ 0
   unfold tab0
   rw [if_neg (by omega), if_neg (by omega), if_pos rfl]
   have h2 := HR0.out.2
   show - cv.getD r0 0 ≠ 0
   have h3 : 0 < cv.getD r0 0 := h2
   omega⟩
  obtain rfl : o0 = some r0 := by rw [← HO0.out]; exact hrj
  clear hr0 hrj HRR hmost
  simp only [encO, HW2.out]
  go_wp2
  go_loopg [8, 9] most (fun gg v8 v9 wr => ∃ (v r : Nat) (s : TS) (st : List (List Int)) (u1 : Value), v8 = .int .i64 (v : Int) ∧ v9 = .int .i64 (r : Int) ∧ Aside0 (st.length ≤ most ∧ st.length ≤ 200 ∧ most - st.length ≤ gg ∧ v + 1 < 2 * n + 2 ∧ r < n ∧ s.T r v ≠ 0) ∧ Aside0 (Ok n (2 * n + 2) (tab0 n (enL M) (fun i => cv.getD i 0) (fun i => Q.getD i 0)) s) ∧ Aside0 (goI n (2 * n + 2) (most - st.length) s v r st = R) ∧ Aside0 (Below w.heap.size w wr) ∧ Aside0 (Tm wr lo hi t g gb n (2 * n + 2) cg cb b cp s) ∧ Aside0 (wr.heap[g7]? = some (.cells #[.pointer (some ⟨t, 0, none⟩), u1, .bool false, .int .i64 0, .int .i64 0] 109 (0, 0))) ∧ Aside0 (Kd.S (Kd.slice 2 (Kd.int .i64)) 23 wr hi (fun _ => True) u1 st))
  case atStart => exact ⟨2 * n, r0, s0, [], .slice none 0 0, by first | rfl | simp, rfl, ⟨by simp, by simp, by simp, by omega, HR0.out.1, HT0.out⟩, HOK, ⟨HRE.out⟩, HB, HT, B7, ⟨Kd.S_nil _ _ _ _ _⟩⟩
  case round =>
   clear HB HT B7 HOK HRE HT0 HR0
   obtain ⟨v, r, s, st, u1, rfl, rfl, HA, HOK, HRE, HB, HT, B7, HS⟩ := hrel
   obtain ⟨As, cs, rfl⟩ := Kd.S_slice HS.out
   have hc1 := cz_ B7 1
   have hc2 := cz_ B7 2
   by_cases hlm : st.length < most
   ·have hlz : (st.length : Int) < (most : Int) := by omega
    obtain ⟨q, hq⟩ : ∃ q, most - st.length = q + 1 := ⟨most - st.length - 1, by omega⟩
    have hre := HRE.out
    rw [hq] at hre
    have HRE2 := Aside0.mk hre
    have HQ1 := Aside0.mk hq
    clear hre hq hlm HRE
    by_cases h200 : st.length = 200
    ·have h2z : ((st.length : Int) == 200) = true := by rw [h200]; rfl
     have HRE3 : Aside0 ((s, st, false, 0, 3) = R) := ⟨by rw [← HRE2.out]; unfold goI; rw [if_pos h200]⟩
     have hs4 := cz_ B7 4
     have hs4f := blk_frozen B7.out 4
     clear h200 HRE2
     go_wp2
     go_ret
     refine ⟨_, rfl, ?_, HB.out.setCell (Nat.le_trans HLO.out (Nat.le_trans HLH.out HG7.out)) _⟩
     rw [← HRE3.out]
     exact ⟨lo, hi, t, _, HLO.out, HLH.out, HG7.out, ⟨g, gb, cg, cb, b, cp, HT.out.mv (Out.set _ (a := g7) (b := g7 + 1) _ _ ⟨Nat.le_refl _, Nat.lt_succ_self _⟩) (.inl HG7.out)⟩, blk_put B7.out 4 _ rfl, S_type HS.out B7.out (by decide) (hset _ _ _ _)⟩
    ·have h2z : ((st.length : Int) == 200) = false := by simp; omega
     have h2n : ¬ (st.length : Int) = 200 := by omega
     obtain ⟨ha1, ha2, ha3, hv, hr, hp⟩ := HA.out
     have HV := Aside0.mk hv
     have HR := Aside0.mk hr
     have HP := Aside0.mk hp
     have HL2 : Aside0 (st.length < 200) := ⟨by omega⟩
     obtain ⟨l, hl⟩ : ∃ l : Nat, s.bs.getD r 0 = (l : Int) := ⟨(s.bs.getD r 0).toNat, by have := HOK.out.nn r hr; omega⟩
     have HLV := Aside0.mk hl
     have hstep := step_calls HT.out v r hr (by omega) (by have := HN2.out; omega) (by have := HN2.out; omega) (by have := (HOK.out.den_le HN2.out HSM.out).1; omega) (by have := (HOK.out.abs HN2.out HSM.out hr (show v < 2 * n + 2 by omega)).1; omega) (by have := (HOK.out.abs HN2.out HSM.out hr (show v < 2 * n + 2 by omega)).2; omega)
     rw [hl] at hstep
     have HSTEP := Aside0.mk hstep
     clear hstep hl ha1 ha2 ha3 hv hr hp h200
     have hc0 := cz_ B7 0
     go_wp2_with fail
     refine HSTEP.out.mono ?_
     rintro e w11 ⟨rfl, hT', hO⟩
     replace HT := Aside0.mk hT'
     replace HB := Aside0.mk (hO.toBelow HB.out HLO.out)
     replace B7 := Aside0.mk (hO.blk B7.out (.inr HG7.out))
     replace HS := Aside0.mk (S_out HS.out hO)
     clear hT' hO HSTEP hc0 hc1 hc2
     have HSO := Aside0.mk (Kd.S_mono (Kd.S_bound HS.out) (fun k hk => hk.2.2.1) : Kd.S (Kd.slice 2 (Kd.int .i64)) 23 w11 hi (fun k => k < w11.heap.size) (.slice As st.length cs) st)
     have HHW : Aside0 (hi ≤ w11.heap.size) := ⟨HT.out.size⟩
     have HW11 := Aside0.mk (Below.refl w11.heap.size w11)
     obtain ⟨st2, hst2⟩ : ∃ st2, st ++ [[(v : Int), (l : Int)]] = st2 := ⟨_, rfl⟩
     have HST2 := Aside0.mk hst2
     obtain ⟨zb, hzb⟩ : ∃ zb, ((l : Int) == 2 * (n : Int)) = zb := ⟨_, rfl⟩
     have HZB := Aside0.mk hzb
     clear HS hst2 hzb
     have hc1 := cz_ B7 1
     go_wp2_with (first | ((with_reducible refine gate_dst (N := 71) rfl ?_); refine Kd.R_lit (Kd.int .i64) (w0 := w11) w11.heap.size 2 ?hg (N := 71) ?hd (xs := [(v : Int), (l : Int)]) (inner := [.int .i64 (v : Int), .int .i64 (l : Int)]) (ok := fun k => w11.heap.size ≤ k) (okp := fun k => w11.heap.size ≤ k) ?hr ?hp (fun _ hk => hk) (Nat.le_refl _) (Below.refl _ _) (Nat.le_refl _) (by simp) ?_; (case hd => rfl); (case hg => rfl); (case hr => first | (go_simp; done) | (go_simp; rfl)); (case hp => exact Reps.one rfl (Reps.one rfl (Reps.none _ _))); intro v71 w12 hr hb hg_ hat_; clear hg_ hat_; have HR71 := Aside0.mk (Kd.R_lower hr HHW.out); replace HB := Aside0.mk (below_step HB.out hb); replace B7 := Aside0.mk (blk_below B7.out hb); replace HT := Aside0.mk (HT.out.mvB hb); replace HSO := Aside0.mk (Kd.S_below HSO.out hb); replace HW11 := Aside0.mk hb; clear hr hb hc1; obtain ⟨A71, c71, e71⟩ := Kd.R_slice HR71.out; subst e71) | ((with_reducible refine gate_builtin (b := .append) (xs := #[.tmp 68, .tmp 72]) rfl ?_); at_builtin; refine Kd.S_append (Kd.slice 2 (Kd.int .i64)) (w0 := w12) hi rfl (.tmp 68) (.tmp 72) 22 23 (.slice none 0 0) 24 rfl Try.underlying22 info23 rfl (by decide) (by omega) (.slice As st.length cs) st [(v : Int), (l : Int)] [.slice A71 [(v : Int), (l : Int)].length c71] (fun _ => True) (fun k => w11.heap.size ≤ k) rfl rfl ?aP ?aQ ?aF ?aO (Below.refl _ _) ?aS ?aL ?_; (case aP => exact Kd.M_row HR71.out); (case aQ => exact fun k hk => ⟨trivial, fun e => Nat.lt_irrefl _ (Nat.lt_of_lt_of_le (S_own HSO.out k e.symm) hk)⟩); (case aF => exact fun _ _ => trivial); (case aO => exact Kd.S_mono HSO.out (fun k hk => ⟨trivial, fun q => Nat.lt_irrefl _ (Nat.lt_of_lt_of_le hk q)⟩)); (case aS => exact HT.out.size); (case aL => have := HL2.out; omega); intro v1 w13 hs hb hg hat; replace B7 := Aside0.mk (blk_grown B7.out hg (S_ne HSO.out B7.out (by decide))); rw [HST2.out] at hs; have HS := Aside0.mk hs; replace HT := Aside0.mk (HT.out.mv (Out.hi hb) (.inl (Nat.le_refl _))); replace HB := Aside0.mk ((Out.hi hb).toBelow HB.out (Nat.le_trans HLO.out HLH.out)); clear hs hb hg hat HSO HW11 HR71; obtain ⟨A9, c9, e9⟩ := Kd.S_slice HS.out; subst e9; have hc1 := cz_ B7 1; have hs1f := blk_frozen B7.out 1; have hc2 := cz_ B7 2; have hs2f := blk_frozen B7.out 2; have hcn := HT.out.h3; have hc0 := cz_ B7 0; have hne1 := (Nat.ne_of_lt (Nat.lt_of_lt_of_le HT.out.tR.2 HG7.out)); have hne2 := (Nat.ne_of_gt (Nat.lt_of_lt_of_le HT.out.tR.2 HG7.out)); have hw2 := HW2.out; have hzb := HZB.out))
     ·rename_i hz
      have HZ := Aside0.mk (HZB.out.trans hz)
      go_ret
      have B7a := Aside0.mk (blk_put B7.out 1 (.slice A9 st2.length c9) rfl)
      refine ⟨_, rfl, ?_, (HB.out.setCell (Nat.le_trans HLO.out (Nat.le_trans HLH.out HG7.out)) _).setCell (Nat.le_trans HLO.out (Nat.le_trans HLH.out HG7.out)) _⟩
      have hl2 : s.bs.getD r 0 = 2 * (n : Int) := by rw [HLV.out]; exact eq_of_beq HZ.out
      rw [← HRE2.out]
      unfold goI
      rw [if_neg (by have := HL2.out; omega), if_pos hl2, HLV.out, HST2.out]
      exact ⟨lo, hi, t, _, HLO.out, HLH.out, HG7.out, ⟨g, gb, cg, cb, b, cp, (HT.out.mv (Out.set _ (a := g7) (b := g7 + 1) _ _ ⟨Nat.le_refl _, Nat.lt_succ_self _⟩) (.inl HG7.out)).mv (Out.set _ (a := g7) (b := g7 + 1) _ _ ⟨Nat.le_refl _, Nat.lt_succ_self _⟩) (.inl HG7.out)⟩, blk_put B7a.out 2 _ rfl, S_type (S_type HS.out B7.out (by decide) (hset _ _ _ _)) B7a.out (by decide) (hset _ _ _ _)⟩
     ·have hz : zb = false := by assumption
      have HZ := Aside0.mk (HZB.out.trans hz)
      have hl2 : ¬ s.bs.getD r 0 = 2 * (n : Int) := by rw [HLV.out]; intro e; have := HZ.out; rw [e] at this; simp at this
      have HL3 := Aside0.mk hl2
      replace HS := Aside0.mk (S_type HS.out B7.out (by decide) (hset w13 g7 1 (.slice A9 st2.length c9)))
      replace HT := Aside0.mk (HT.out.mv (Out.set w13 (a := g7) (b := g7 + 1) 1 (.slice A9 st2.length c9) ⟨Nat.le_refl _, Nat.lt_succ_self _⟩) (.inl HG7.out))
      replace HB := Aside0.mk (HB.out.setCell (p := ⟨g7, 1, none⟩) (Nat.le_trans HLO.out (Nat.le_trans HLH.out HG7.out)) (.slice A9 st2.length c9))
      replace B7 := Aside0.mk (blk_put B7.out 1 (.slice A9 st2.length c9) rfl)
      clear hl2 hz hzb hc0 hc1 hc2 hs1f hs2f hcn hne1 hne2
      generalize w13.setCell ⟨g7, 1, none⟩ (.slice A9 st2.length c9) = w14 at HT HS HB B7 ⊢
      have hll : l < 2 * n := by have h1 := HOK.out.lt r HR.out; have h2 := HL3.out; rw [HLV.out] at h1 h2; simp only [Int.toNat_natCast] at h1; omega
      have hll2 : partner n l < 2 * n := by unfold partner; split <;> omega
      obtain ⟨v2, hv2⟩ : ∃ v2, partner n l = v2 := ⟨_, rfl⟩
      have HV2B : Aside0 (v2 < 2 * n) := ⟨by rw [← hv2]; exact hll2⟩
      have HV2 := Aside0.mk hv2
      clear hll2
      refine (partner_calls HT.out l (by have := HN2.out; omega) hll).mono ?_
      rw [hv2]
      clear hv2 hll
      rintro e w15 ⟨rfl, hb⟩
      replace HB := Aside0.mk (below_step HB.out hb)
      replace B7 := Aside0.mk (blk_below B7.out hb)
      replace HT := Aside0.mk (HT.out.mvB hb)
      replace HS := Aside0.mk (Kd.S_below HS.out hb)
      clear hb
      have HOK2 := Aside0.mk (HOK.out.step HN2.out HSM.out HR.out HV.out HP.out)
      obtain ⟨s2, hs2⟩ : ∃ s2, s.step r v = s2 := ⟨_, rfl⟩
      rw [hs2] at HT HOK2
      have HS2 := Aside0.mk hs2
      clear hs2
      obtain ⟨o, ho⟩ : ∃ o, rowJ s2.T n (2 * n + 2) (fun i => s2.T i v2) n = o := ⟨_, rfl⟩
      have HO := Aside0.mk ho
      clear ho
      have HRJ := Aside0.mk ((rowJ_eq (s := s2) (bf := fun i => s2.T i v2) (fun i hi => HOK2.out.abs HN2.out HSM.out hi (by have := HV2B.out; omega)) (fun a c ha hc => HOK2.out.abs HN2.out HSM.out ha hc) (by omega)).symm.trans HO.out)
      have HGO : Aside0 (goN n (2 * n + 2) q s2 v2 st2 o = R) := ⟨by
       rw [← HRE2.out]
       conv => rhs; unfold goI
       rw [if_neg (by have := HL2.out; omega), if_neg HL3.out, HLV.out, HST2.out, HS2.out, Int.toNat_natCast, HV2.out]
       have e := HRJ.out
       rw [e]
       cases o <;> rfl⟩
      have hc0 := cz_ B7 0
      go_wp2_with fail
      refine (enterBy_calls HT.out v2 (by have := HN2.out; omega) (by have := HN.out; omega) (by have := HN2.out; omega) (by have := HV2B.out; omega)).mono ?_
      rw [HO.out]
      rintro e w16 ⟨rfl, hb⟩
      replace HB := Aside0.mk (below_step HB.out hb)
      replace B7 := Aside0.mk (blk_below B7.out hb)
      replace HT := Aside0.mk (HT.out.mvB hb)
      replace HS := Aside0.mk (Kd.S_below HS.out hb)
      clear hb hc0
      cases o with
      | none =>
       simp only [encO]
       have hc3 := cz_ B7 3
       have hs3f := blk_frozen B7.out 3
       go_wp2
       go_ret
       refine ⟨_, rfl, ?_, HB.out.setCell (Nat.le_trans HLO.out (Nat.le_trans HLH.out HG7.out)) _⟩
       rw [← HGO.out]
       exact ⟨lo, hi, t, _, HLO.out, HLH.out, HG7.out, ⟨g, gb, cg, cb, b, cp, HT.out.mv (Out.set _ (a := g7) (b := g7 + 1) _ _ ⟨Nat.le_refl _, Nat.lt_succ_self _⟩) (.inl HG7.out)⟩, blk_put B7.out 3 _ rfl, S_type HS.out B7.out (by decide) (hset _ _ _ _)⟩
      | some r2 =>
       simp only [encO]
       have hr20 : ¬ (r2 : Int) < 0 := by omega
       have HRB := Aside0.mk (rowB_some HRJ.out)
       go_wp2
       go_roundg q
       case measure => have h1 := HA.out.2.2.1; have h2 := HQ1.out; omega
       case rel =>
        have hlen : st2.length = st.length + 1 := by rw [← HST2.out]; simp
        have hq : most - st2.length = q := by have h2 := HQ1.out; omega
        exact ⟨v2, r2, s2, st2, _, rfl, rfl, ⟨by have h2 := HQ1.out; omega, by have h2 := HL2.out; omega, by omega, by have h2 := HV2B.out; omega, HRB.out.1, by have h3 := HRB.out.2; omega⟩, HOK2, ⟨by rw [hq]; exact HGO.out⟩, HB, HT, B7, HS⟩
   ·have hlz : ¬ (st.length : Int) < (most : Int) := by omega
    have e0 : most - st.length = 0 := by omega
    have hre := HRE.out
    rw [e0] at hre
    have HRE2 : Aside0 ((s, st, false, 0, 0) = R) := ⟨hre⟩
    clear hre HRE hlm
    go_wp2
    go_ret
    refine ⟨_, rfl, ?_, HB.out⟩
    rw [← HRE2.out]
    exact ⟨lo, hi, t, _, HLO.out, HLH.out, HG7.out, ⟨g, gb, cg, cb, b, cp, HT.out⟩, B7.out, HS.out⟩
theorem PlE.mv {w0 w w' : World} {p n m : Nat} {s : TS} {st : List (List Int)} {solved : Bool} {ray code : Int} (h : PlE w0 w p n m s st solved ray code) (hb : Below w.heap.size w w') : PlE w0 w' p n m s st solved ray code := by
 obtain ⟨lo, hi, t, u1, h1, h2, h3, ⟨g, gb, cg, cb, b, cp, hT⟩, hB, hS⟩ := h
 exact ⟨lo, hi, t, u1, h1, h2, h3, ⟨g, gb, cg, cb, b, cp, hT.mvB hb⟩, blk_below hB hb, Kd.S_below hS hb⟩
theorem PlE.base {w0 w1 w : World} {p n m : Nat} {s : TS} {st : List (List Int)} {solved : Bool} {ray code : Int} (h : PlE w1 w p n m s st solved ray code) (hb : w0.heap.size ≤ w1.heap.size) : PlE w0 w p n m s st solved ray code := by
 obtain ⟨lo, hi, t, u1, h1, h2⟩ := h
 exact ⟨lo, hi, t, u1, Nat.le_trans hb h1, h2⟩
end Go.Proofs.Ythdoilfjcgickaa.Lq
end
section
namespace Go.Proofs.Ythdoilfjcgickaa.Un
open Go.RowKit Go.Proofs.YthdoilfjcgickaaW.PrintWords Go.Proofs.YthdoilfjcgickaaW.PrintMore Go.Proofs.Ythdoilfjcgickaa.Ma Go.Proofs.Ythdoilfjcgickaa.Dt Go.Proofs.Ythdoilfjcgickaa.Bz
end Go.Proofs.Ythdoilfjcgickaa.Un
end
section
namespace Go.Proofs.Ythdoilfjcgickaa.Pr
open Go.RowKit Go.Proofs.YthdoilfjcgickaaW.PrintWords Go.Proofs.YthdoilfjcgickaaW.PrintLast Go.Proofs.YthdoilfjcgickaaW.PrintMore
attribute [local go_sem] max2_int min2_int max_two min_two max_three min_three max_four min_four
mutual
def spec_l01Columns.l0 : Nat → List (List Int) → Int → List (List Int) → Int → Option ((List (List Int)))
 | 0, _, _, _, _ => none
 | k + 1, x0, x1, x5, x6 => if x6 < (x0.length : Int) then (spec_l01Columns.l1 k x0 x1 x5 x6 (([] : List Int)) 0) else (some x5)
def spec_l01Columns.l1 : Nat → List (List Int) → Int → List (List Int) → Int → List Int → Int → Option ((List (List Int)))
 | 0, _, _, _, _, _, _ => none
 | k + 1, x0, x1, x5, x6, x7, x8 => if x8 < (x0.length : Int) then (if 0 ≤ (IntKind.u64.wrap (x8)) then (if (Go.bits .and .i64 (shr .i64 x1 (IntKind.u64.wrap (x8))) 1) = 1 then (if 0 ≤ x6 then (if x6 < (x0.length : Int) then (if 0 ≤ x8 then (if x8 < ((rd_L1 x0 x6).length : Int) then (if x7.length < 17592186044416 then (spec_l01Columns.l1 k x0 x1 x5 x6 (x7 ++ [wrap64 (-(rd (rd_L1 x0 x6) x8))]) (wrap64 (x8 + 1))) else (none)) else (none)) else (none)) else (none)) else (none)) else (if x6 = x8 then (if x7.length < 17592186044416 then (spec_l01Columns.l1 k x0 x1 x5 x6 (x7 ++ [1]) (wrap64 (x8 + 1))) else (none)) else (if x7.length < 17592186044416 then (spec_l01Columns.l1 k x0 x1 x5 x6 (x7 ++ [0]) (wrap64 (x8 + 1))) else (none)))) else (none)) else (if x5.length < 5864062014805 then (spec_l01Columns.l0 k x0 x1 (x5 ++ [x7]) (wrap64 (x6 + 1))) else (none))
end
def spec_l01Columns.f (k : Nat) (l0 : List (List Int)) (a1 : Int) : Option ((List (List Int))) := spec_l01Columns.l0 k l0 a1 (([] : List (List Int))) 0
theorem spec_l01Columns.mono_l : ∀ k, (∀ y0 y1 y2 y3, LeO (spec_l01Columns.l0 k y0 y1 y2 y3) (spec_l01Columns.l0 (k + 1) y0 y1 y2 y3)) ∧ (∀ y0 y1 y2 y3 y4 y5, LeO (spec_l01Columns.l1 k y0 y1 y2 y3 y4 y5) (spec_l01Columns.l1 (k + 1) y0 y1 y2 y3 y4 y5))
 | 0 => ⟨fun _ _ _ _ r h => by simp [spec_l01Columns.l0] at h, fun _ _ _ _ _ _ r h => by simp [spec_l01Columns.l1] at h⟩
 | k + 1 => by
  obtain ⟨ih0, ih1⟩ := spec_l01Columns.mono_l k
  refine ⟨?_, ?_⟩
  ·intro y0 y1 y2 y3
   unfold spec_l01Columns.l0
   repeat' first
   | (with_reducible exact ih0 _ _ _ _)
   | (with_reducible exact ih1 _ _ _ _ _ _)
   | (with_reducible exact LeO.refl _)
   | (with_reducible exact LeO.none _)
   | (with_reducible refine LeO.ite ?_ ?_)
   | (with_reducible refine LeO.bind ?_ (fun _ => ?_))
   | exact ih0 _ _ _ _
   | exact ih1 _ _ _ _ _ _
   | exact LeO.none _
   | refine LeO.ite ?_ ?_
   | refine LeO.bind ?_ (fun _ => ?_)
  ·intro y0 y1 y2 y3 y4 y5
   unfold spec_l01Columns.l1
   repeat' first
   | (with_reducible exact ih0 _ _ _ _)
   | (with_reducible exact ih1 _ _ _ _ _ _)
   | (with_reducible exact LeO.refl _)
   | (with_reducible exact LeO.none _)
   | (with_reducible refine LeO.ite ?_ ?_)
   | (with_reducible refine LeO.bind ?_ (fun _ => ?_))
   | exact ih0 _ _ _ _
   | exact ih1 _ _ _ _ _ _
   | exact LeO.none _
   | refine LeO.ite ?_ ?_
   | refine LeO.bind ?_ (fun _ => ?_)
theorem spec_l01Columns.mono : ∀ a0 a1 k, LeO (spec_l01Columns.f k a0 a1) (spec_l01Columns.f (k + 1) a0 a1) := by
 intro a0 a1 k
 obtain ⟨ih0, ih1⟩ := spec_l01Columns.mono_l k
 unfold spec_l01Columns.f
 repeat' first
   | (with_reducible exact ih0 _ _ _ _)
   | (with_reducible exact ih1 _ _ _ _ _ _)
   | (with_reducible exact LeO.refl _)
   | (with_reducible exact LeO.none _)
   | (with_reducible refine LeO.ite ?_ ?_)
   | (with_reducible refine LeO.bind ?_ (fun _ => ?_))
   | exact ih0 _ _ _ _
   | exact ih1 _ _ _ _ _ _
   | exact LeO.none _
   | refine LeO.ite ?_ ?_
   | refine LeO.bind ?_ (fun _ => ?_)
theorem spec_l01Columns.calls (k : Nat) (A0 : Option Addr) (c0 : Nat) (l0 : List (List Int)) (a1 : Int) (r : List (List Int)) (w : World) (hr0 : Kd.C (Kd.slice 2 (Kd.int .i64)) w A0 l0.length l0) (hc0 : l0.length ≤ c0) (h : spec_l01Columns.f k l0 a1 = some r) :
  Calls Try.prog 104 #[.slice A0 l0.length c0, .int .i64 a1] w fun e w' => ∃ v0_ : Value, e = .returned (v0_) ∧ Kd.S (Kd.slice 2 (Kd.int .i64)) 23 w' w.heap.size (fun _ => True) v0_ r ∧ Below w.heap.size w w' := by
 have HR0 := Aside0.mk hr0
 have HC0 := Aside0.mk hc0
 clear hr0 hc0
 have HB := Aside0.mk (Below.refl w.heap.size w)
 have H : (spec_l01Columns.l0 k l0 a1 (([] : List (List Int))) 0) = some r := h
 clear h
 obtain ⟨y221, hy221⟩ : ∃ y_ : List (List Int), y_ = (([] : List (List Int))) := ⟨_, rfl⟩
 replace H : (spec_l01Columns.l0 k l0 a1 y221 0) = some r := by first | (rw [hy221]; with_reducible exact H) | (have H2_ := (Option.bind_some _ _).symm.trans H; rw [hy221]; with_reducible exact H2_) | (have H2_ := (Option.bind_some _ _).symm.trans H; with_reducible exact H2_) | with_reducible exact H | (rw [hy221]; exact H) | exact H
 have Ny221 := Aside0.mk hy221
 clear hy221
 have H' := Aside0.mk H
 clear H
 go_enter Try.func104, Try.ntmps104
 go_wp2_with (first | ((with_reducible refine gate_dst (N := 9) rfl ?_); refine Kd.S_lit (Kd.slice 2 (Kd.int .i64)) _ 23 ?hg (N := 9) ?hd (xs := ([] : List (List Int))) (inner := []) (ok := fun _ => True) (okp := fun _ => True) ?hr ?hp (fun _ hk => hk) trivial (Below.refl _ _) (Nat.le_refl _) (by simp) ?_; (case hd => rfl); (case hg => rfl); (case hr => first | (go_simp; done) | (go_simp; rfl)); (case hp => exact (Reps.none _ _)); intro v222 w3 ho4 hb hg_ hnew_; clear hg_ hnew_; (first | rw [← Ny221.out] at ho4 | (simp only [Int.reduceToNat] at ho4; rw [← Ny221.out] at ho4)); have n0_ := Aside0.mk (Kd.S_lower ho4 bz_); have n1_ := Aside0.mk (bs_ hb); clear HB; have HO223 := n0_; have HB := n1_; clear n0_ n1_; clear hb ho4))
 go_loopg [5, 6] k (fun kq v5 v6 w' => ∃ (x5_1 : List (List Int)) (x6_1 : Int), v6 = .int .i64 x6_1 ∧ Aside0 (spec_l01Columns.l0 kq l0 a1 x5_1 x6_1 = some r) ∧ Aside0 (kq ≤ k) ∧ Aside0 (Kd.S (Kd.slice 2 (Kd.int .i64)) 23 w' w.heap.size (fun _ => True) v5 x5_1) ∧ Aside0 (Below w.heap.size w w'))
 case atStart => exact ⟨(y221), (0), rs_, H', ⟨Nat.le_refl _⟩, ⟨so_ HO223.out⟩, ⟨hb_⟩⟩
 case round =>
  clear H'
  try clear c1
  try clear p2
  obtain ⟨x5_1, x6_1, rfl, HA, HK1, HO_5, HB⟩ := hrel
  cases gk with
  | zero => exact absurd HA.out (by simp [spec_l01Columns.l0])
  | succ k1 =>
   have H := HA.out
   clear HA
   simp only [spec_l01Columns.l0] at H
   by_cases c5 : x6_1 < (l0.length : Int)
   ·rw [if_pos c5] at H
    have c5b0 : decide (x6_1 < (l0.length : Int)) = true := decide_eq_true c5
    clear c5
    obtain ⟨y224, hy224⟩ : ∃ y_ : List Int, y_ = (([] : List Int)) := ⟨_, rfl⟩
    replace H : (spec_l01Columns.l1 k1 l0 a1 x5_1 x6_1 y224 0) = some r := by first | (rw [hy224]; with_reducible exact H) | (have H2_ := (Option.bind_some _ _).symm.trans H; rw [hy224]; with_reducible exact H2_) | (have H2_ := (Option.bind_some _ _).symm.trans H; with_reducible exact H2_) | with_reducible exact H | (rw [hy224]; exact H) | exact H
    have Ny224 := Aside0.mk hy224
    clear hy224
    have H' := Aside0.mk H
    clear H
    go_wp2_with (first | ((with_reducible refine gate_dst (N := 16) rfl ?_); refine Kd.R_lit (Kd.int .i64) _ 2 ?hg (N := 16) ?hd (xs := ([] : List Int)) (inner := []) (ok := fun _ => True) (okp := fun _ => True) ?hr ?hp (fun _ hk => hk) trivial (Below.refl _ _) (Nat.le_refl _) (by simp) ?_; (case hd => rfl); (case hg => rfl); (case hr => first | (go_simp; done) | (go_simp; rfl)); (case hp => exact (Reps.none _ _)); intro v225 w6 ho7 hb hg_ hnew_; clear hg_ hnew_; (first | rw [← Ny224.out] at ho7 | (simp only [Int.reduceToNat] at ho7; rw [← Ny224.out] at ho7)); have n0_ := Aside0.mk (Kd.S_elder' (so_ HO_5.out) (Kd.R_base ho7) hb); have n1_ := Aside0.mk (Kd.R_lower ho7 bz_); have n2_ := Aside0.mk (bs_ hb); clear HO_5; clear HB; have HO_5 := n0_; have HO226 := n1_; have HB := n2_; clear n0_ n1_ n2_; clear hb ho7))
    go_loopg [7, 8] k1 (fun kq v7 v8 w' => ∃ (x7_2 : List Int) (x8_2 : Int), v8 = .int .i64 x8_2 ∧ Aside0 (spec_l01Columns.l1 kq l0 a1 x5_1 x6_1 x7_2 x8_2 = some r) ∧ Aside0 (kq ≤ k1) ∧ Aside0 (Kd.S (Kd.slice 2 (Kd.int .i64)) 23 w' w.heap.size (fun k_ => some k_ ≠ (v7 : Value).ownBlock) u5 x5_1) ∧ Aside0 (Kd.R (Kd.int .i64) 2 w' w.heap.size (fun _ => True) v7 x7_2) ∧ Aside0 (Below w.heap.size w w'))
    case atStart => exact ⟨(y224), (0), rs_, H', ⟨Nat.le_refl _⟩, ⟨by (with_reducible repeat (first | apply Kd.S_alloc | apply Kd.S_drewN | apply Kd.S_drew)); exact Kd.S_mono HO_5.out (fun _ hk => hk.2)⟩, ⟨ro_ HO226.out⟩, ⟨hb_⟩⟩
    case round =>
     clear H'
     try clear c1
     try clear p2
     try clear c5
     try clear c5b0
     try clear p2
     obtain ⟨x7_2, x8_2, rfl, HA, HK2, HO_5, HO_7, HB⟩ := hrel
     cases gk with
     | zero => exact absurd HA.out (by simp [spec_l01Columns.l1])
     | succ k2 =>
      have H := HA.out
      clear HA
      simp only [spec_l01Columns.l1] at H
      by_cases c8 : x8_2 < (l0.length : Int)
      ·rw [if_pos c8] at H
       have c8b0 : decide (x8_2 < (l0.length : Int)) = true := decide_eq_true c8
       clear c8
       obtain ⟨ji9, hji9⟩ : ∃ j_ : Int, (IntKind.u64.wrap (x8_2)) = j_ := ⟨_, rfl⟩
       replace H : (if 0 ≤ (ji9) then (if (Go.bits .and .i64 (shr .i64 a1 (ji9)) 1) = 1 then (if 0 ≤ x6_1 then (if x6_1 < (l0.length : Int) then (if 0 ≤ x8_2 then (if x8_2 < ((rd_L1 l0 x6_1).length : Int) then (if x7_2.length < 17592186044416 then (spec_l01Columns.l1 k2 l0 a1 x5_1 x6_1 (x7_2 ++ [wrap64 (-(rd (rd_L1 l0 x6_1) x8_2))]) (wrap64 (x8_2 + 1))) else (none)) else (none)) else (none)) else (none)) else (none)) else (if x6_1 = x8_2 then (if x7_2.length < 17592186044416 then (spec_l01Columns.l1 k2 l0 a1 x5_1 x6_1 (x7_2 ++ [1]) (wrap64 (x8_2 + 1))) else (none)) else (if x7_2.length < 17592186044416 then (spec_l01Columns.l1 k2 l0 a1 x5_1 x6_1 (x7_2 ++ [0]) (wrap64 (x8_2 + 1))) else (none)))) else (none)) = some r := by first | (rw [hji9] at H; exact H) | (simp only [hji9] at H ⊢; exact H)
       by_cases c10 : 0 ≤ (ji9)
       ·rw [if_pos c10] at H
        have c10b0 := eq_true c10
        have c10b1 : decide (0 ≤ (ji9)) = true := decide_eq_true c10
        clear c10
        obtain ⟨ji11, hji11⟩ : ∃ j_ : Int, (shr .i64 a1 (ji9)) = j_ := ⟨_, rfl⟩
        replace H : (if (Go.bits .and .i64 (ji11) 1) = 1 then (if 0 ≤ x6_1 then (if x6_1 < (l0.length : Int) then (if 0 ≤ x8_2 then (if x8_2 < ((rd_L1 l0 x6_1).length : Int) then (if x7_2.length < 17592186044416 then (spec_l01Columns.l1 k2 l0 a1 x5_1 x6_1 (x7_2 ++ [wrap64 (-(rd (rd_L1 l0 x6_1) x8_2))]) (wrap64 (x8_2 + 1))) else (none)) else (none)) else (none)) else (none)) else (none)) else (if x6_1 = x8_2 then (if x7_2.length < 17592186044416 then (spec_l01Columns.l1 k2 l0 a1 x5_1 x6_1 (x7_2 ++ [1]) (wrap64 (x8_2 + 1))) else (none)) else (if x7_2.length < 17592186044416 then (spec_l01Columns.l1 k2 l0 a1 x5_1 x6_1 (x7_2 ++ [0]) (wrap64 (x8_2 + 1))) else (none)))) = some r := by first | (rw [hji11] at H; exact H) | (simp only [hji11] at H ⊢; exact H)
        have hji11_ : (a1 / 2 ^ min (ji9).toNat 64) = ji11 := hji11
        have hji11z : (ji9) ≤ 64 → (a1 / 2 ^ (ji9).toNat) = ji11 := shr_small hji11
        by_cases c12 : (Go.bits .and .i64 (ji11) 1) = 1
        ·rw [if_pos c12] at H
         have c12b0 : ((Go.bits .and .i64 (ji11) 1) == 1) = true := beq_iff_eq.mpr c12
         have c12b1 : ((Go.bits .and .i64 (ji11) 1) != 1) = false := bne_eq_false_iff_eq.mpr c12
         clear c12
         by_cases c13 : 0 ≤ x6_1
         ·rw [if_pos c13] at H
          have c13b0 : decide (0 ≤ x6_1) = true := decide_eq_true c13
          clear c13
          by_cases c14 : x6_1 < (l0.length : Int)
          ·rw [if_pos c14] at H
           have c14b0 : decide (x6_1 < (l0.length : Int)) = true := decide_eq_true c14
           clear c14
           by_cases c15 : 0 ≤ x8_2
           ·rw [if_pos c15] at H
            have c15b0 : decide (0 ≤ x8_2) = true := decide_eq_true c15
            clear c15
            by_cases c16 : x8_2 < ((rd_L1 l0 x6_1).length : Int)
            ·rw [if_pos c16] at H
             have c16b0 : decide (x8_2 < ((rd_L1 l0 x6_1).length : Int)) = true := decide_eq_true c16
             clear c16
             by_cases c17 : x7_2.length < 17592186044416
             ·rw [if_pos c17] at H
              have LMc17 := Aside0.mk c17
              clear c17
              obtain ⟨y232, hy232⟩ : ∃ y_ : List Int, y_ = (x7_2 ++ [wrap64 (-(rd (rd_L1 l0 x6_1) x8_2))]) := ⟨_, rfl⟩
              replace H : (spec_l01Columns.l1 k2 l0 a1 x5_1 x6_1 y232 (wrap64 (x8_2 + 1))) = some r := by first | (rw [hy232]; with_reducible exact H) | (have H2_ := (Option.bind_some _ _).symm.trans H; rw [hy232]; with_reducible exact H2_) | (have H2_ := (Option.bind_some _ _).symm.trans H; with_reducible exact H2_) | with_reducible exact H | (rw [hy232]; exact H) | exact H
              have Ny232 := Aside0.mk hy232
              clear hy232
              have H' := Aside0.mk H
              clear H
              have p230 : 0 ≤ (x6_1 : Int) := od_
              have q230 : x6_1 < (l0.length : Int) := od_
              obtain ⟨ad230, A230_0, c230_0, e230, hx230_0, hl230_0, hi230_0⟩ := at_L1 HR0.out x6_1 p230 q230
              cases e230
              replace hx230_0 := (HB.out.cell (World.block_lt_of_cell? w _ hx230_0)).trans hx230_0
              have HR230_0 := Aside0.mk hi230_0
              have HC230_0 := Aside0.mk hl230_0
              clear hi230_0 hl230_0
              replace p230 := eq_true p230
              replace q230 := eq_true q230
              have p231 : 0 ≤ (x8_2 : Int) := od_
              have q231 : x8_2 < ((rd_L1 l0 x6_1).length : Int) := od_
              obtain ⟨ad231, e231, hx231_0⟩ := Kd.at_int HR230_0.out x8_2 p231 q231
              cases e231
              replace hx231_0 := (HB.out.cell (World.block_lt_of_cell? w _ hx231_0)).trans hx231_0
              replace p231 := eq_true p231
              replace q231 := eq_true q231
              go_wp2_with (first | ((with_reducible refine gate_builtin (b := .append) (xs := #[.tmp 33, .tmp 42]) rfl ?_); at_builtin; refine Kd.R_append (Kd.int .i64) (w0 := w) w.heap.size rfl (.tmp 33) (.tmp 42) 23 2 (.int .i64 0) 8 rfl Try.underlying23 info2 rfl (by decide) (by omega) u7 x7_2 (wrap64 (-(rd (rd_L1 l0 x6_1) x8_2))) [.int .i64 (wrap64 (-(rd (rd_L1 l0 x6_1) x8_2)))] (fun _ => True) (fun _ => False) rfl rfl ?aP (fun _ hk => hk.elim) ?aF ?aO ?aB ?aS ?aL ?_; (case aP => exact rfl); (case aB => exact hb_); (case aF => exact (fun _ _ => trivial)); (case aO => exact (ro_ HO_7.out)); (case aS => exact bz_); (case aL => have := LMc17.out; omega); intro v233 w18 ho hb hg hat; rw [← Ny232.out] at ho; have n0_ := Aside0.mk (Kd.S_after (ok := (fun _ => True)) (by (with_reducible repeat (first | apply Kd.S_alloc | apply Kd.S_drewN | apply Kd.S_drew)); exact Kd.S_mono HO_5.out (fun _ hk => ⟨trivial, hk⟩)) hg hat); have n1_ := Aside0.mk (hb); have n2_ := Aside0.mk (ho); clear HO_5; clear HB; clear HO_7; have HO_5 := n0_; have HB := n1_; have HO234 := n2_; clear n0_ n1_ n2_; clear ho hb hg hat))
              go_roundg k2
              case measure => have := HK1.out; have := HK2.out; omega
              case rel => exact ⟨(y232), (wrap64 (x8_2 + 1)), rs_, H', ⟨by have := HK1.out; have := HK2.out; omega⟩, ⟨by (with_reducible repeat (first | apply Kd.S_alloc | apply Kd.S_drewN | apply Kd.S_drew)); exact Kd.S_mono HO_5.out (fun _ hk => hk.2)⟩, ⟨ro_ HO234.out⟩, ⟨hb_⟩⟩
             ·rw [if_neg c17] at H
              exact absurd H (by simp)
            ·rw [if_neg c16] at H
             exact absurd H (by simp)
           ·rw [if_neg c15] at H
            exact absurd H (by simp)
          ·rw [if_neg c14] at H
           exact absurd H (by simp)
         ·rw [if_neg c13] at H
          exact absurd H (by simp)
        ·rw [if_neg c12] at H
         have c12b0 : ((Go.bits .and .i64 (ji11) 1) == 1) = false := beq_eq_false_iff_ne.mpr c12
         have c12b1 : ((Go.bits .and .i64 (ji11) 1) != 1) = true := bne_iff_ne.mpr c12
         by_cases c19 : x6_1 = x8_2
         ·rw [if_pos c19] at H
          have c19b0 : (x6_1 == x8_2) = true := beq_iff_eq.mpr c19
          have c19b1 : (x6_1 != x8_2) = false := bne_eq_false_iff_eq.mpr c19
          clear c19
          by_cases c20 : x7_2.length < 17592186044416
          ·rw [if_pos c20] at H
           have LMc20 := Aside0.mk c20
           clear c20
           obtain ⟨y235, hy235⟩ : ∃ y_ : List Int, y_ = (x7_2 ++ [1]) := ⟨_, rfl⟩
           replace H : (spec_l01Columns.l1 k2 l0 a1 x5_1 x6_1 y235 (wrap64 (x8_2 + 1))) = some r := by first | (rw [hy235]; with_reducible exact H) | (have H2_ := (Option.bind_some _ _).symm.trans H; rw [hy235]; with_reducible exact H2_) | (have H2_ := (Option.bind_some _ _).symm.trans H; with_reducible exact H2_) | with_reducible exact H | (rw [hy235]; exact H) | exact H
           have Ny235 := Aside0.mk hy235
           clear hy235
           have H' := Aside0.mk H
           clear H
           go_wp2_with (first | ((with_reducible refine gate_builtin (b := .append) (xs := #[.tmp 48, .tmp 49]) rfl ?_); at_builtin; refine Kd.R_append (Kd.int .i64) (w0 := w) w.heap.size rfl (.tmp 48) (.tmp 49) 23 2 (.int .i64 0) 8 rfl Try.underlying23 info2 rfl (by decide) (by omega) u7 x7_2 1 [.int .i64 1] (fun _ => True) (fun _ => False) rfl rfl ?aP (fun _ hk => hk.elim) ?aF ?aO ?aB ?aS ?aL ?_; (case aP => exact rfl); (case aB => exact hb_); (case aF => exact (fun _ _ => trivial)); (case aO => exact (ro_ HO_7.out)); (case aS => exact bz_); (case aL => have := LMc20.out; omega); intro v236 w21 ho hb hg hat; rw [← Ny235.out] at ho; have n0_ := Aside0.mk (Kd.S_after (ok := (fun _ => True)) (by (with_reducible repeat (first | apply Kd.S_alloc | apply Kd.S_drewN | apply Kd.S_drew)); exact Kd.S_mono HO_5.out (fun _ hk => ⟨trivial, hk⟩)) hg hat); have n1_ := Aside0.mk (hb); have n2_ := Aside0.mk (ho); clear HO_5; clear HB; clear HO_7; have HO_5 := n0_; have HB := n1_; have HO237 := n2_; clear n0_ n1_ n2_; clear ho hb hg hat))
           go_roundg k2
           case measure => have := HK1.out; have := HK2.out; omega
           case rel => exact ⟨(y235), (wrap64 (x8_2 + 1)), rs_, H', ⟨by have := HK1.out; have := HK2.out; omega⟩, ⟨by (with_reducible repeat (first | apply Kd.S_alloc | apply Kd.S_drewN | apply Kd.S_drew)); exact Kd.S_mono HO_5.out (fun _ hk => hk.2)⟩, ⟨ro_ HO237.out⟩, ⟨hb_⟩⟩
          ·rw [if_neg c20] at H
           exact absurd H (by simp)
         ·rw [if_neg c19] at H
          have c19b0 : (x6_1 == x8_2) = false := beq_eq_false_iff_ne.mpr c19
          have c19b1 : (x6_1 != x8_2) = true := bne_iff_ne.mpr c19
          by_cases c22 : x7_2.length < 17592186044416
          ·rw [if_pos c22] at H
           have LMc22 := Aside0.mk c22
           clear c22
           obtain ⟨y238, hy238⟩ : ∃ y_ : List Int, y_ = (x7_2 ++ [0]) := ⟨_, rfl⟩
           replace H : (spec_l01Columns.l1 k2 l0 a1 x5_1 x6_1 y238 (wrap64 (x8_2 + 1))) = some r := by first | (rw [hy238]; with_reducible exact H) | (have H2_ := (Option.bind_some _ _).symm.trans H; rw [hy238]; with_reducible exact H2_) | (have H2_ := (Option.bind_some _ _).symm.trans H; with_reducible exact H2_) | with_reducible exact H | (rw [hy238]; exact H) | exact H
           have Ny238 := Aside0.mk hy238
           clear hy238
           have H' := Aside0.mk H
           clear H
           go_wp2_with (first | ((with_reducible refine gate_builtin (b := .append) (xs := #[.tmp 23, .tmp 24]) rfl ?_); at_builtin; refine Kd.R_append (Kd.int .i64) (w0 := w) w.heap.size rfl (.tmp 23) (.tmp 24) 23 2 (.int .i64 0) 8 rfl Try.underlying23 info2 rfl (by decide) (by omega) u7 x7_2 0 [.int .i64 0] (fun _ => True) (fun _ => False) rfl rfl ?aP (fun _ hk => hk.elim) ?aF ?aO ?aB ?aS ?aL ?_; (case aP => exact rfl); (case aB => exact hb_); (case aF => exact (fun _ _ => trivial)); (case aO => exact (ro_ HO_7.out)); (case aS => exact bz_); (case aL => have := LMc22.out; omega); intro v239 w23 ho hb hg hat; rw [← Ny238.out] at ho; have n0_ := Aside0.mk (Kd.S_after (ok := (fun _ => True)) (by (with_reducible repeat (first | apply Kd.S_alloc | apply Kd.S_drewN | apply Kd.S_drew)); exact Kd.S_mono HO_5.out (fun _ hk => ⟨trivial, hk⟩)) hg hat); have n1_ := Aside0.mk (hb); have n2_ := Aside0.mk (ho); clear HO_5; clear HB; clear HO_7; have HO_5 := n0_; have HB := n1_; have HO240 := n2_; clear n0_ n1_ n2_; clear ho hb hg hat))
           go_roundg k2
           case measure => have := HK1.out; have := HK2.out; omega
           case rel => exact ⟨(y238), (wrap64 (x8_2 + 1)), rs_, H', ⟨by have := HK1.out; have := HK2.out; omega⟩, ⟨by (with_reducible repeat (first | apply Kd.S_alloc | apply Kd.S_drewN | apply Kd.S_drew)); exact Kd.S_mono HO_5.out (fun _ hk => hk.2)⟩, ⟨ro_ HO240.out⟩, ⟨hb_⟩⟩
          ·rw [if_neg c22] at H
           exact absurd H (by simp)
       ·rw [if_neg c10] at H
        exact absurd H (by simp)
      ·rw [if_neg c8] at H
       have c8b0 : decide (x8_2 < (l0.length : Int)) = false := decide_eq_false c8
       clear c8
       by_cases c24 : x5_1.length < 5864062014805
       ·rw [if_pos c24] at H
        have LMc24 := Aside0.mk c24
        clear c24
        obtain ⟨y227, hy227⟩ : ∃ y_ : List (List Int), y_ = (x5_1 ++ [x7_2]) := ⟨_, rfl⟩
        replace H : (spec_l01Columns.l0 k2 l0 a1 y227 (wrap64 (x6_1 + 1))) = some r := by first | (rw [hy227]; with_reducible exact H) | (have H2_ := (Option.bind_some _ _).symm.trans H; rw [hy227]; with_reducible exact H2_) | (have H2_ := (Option.bind_some _ _).symm.trans H; with_reducible exact H2_) | with_reducible exact H | (rw [hy227]; exact H) | exact H
        have Ny227 := Aside0.mk hy227
        clear hy227
        have H' := Aside0.mk H
        clear H
        obtain ⟨Ao26, co26, eo26⟩ := Kd.R_slice HO_7.out
        subst eo26
        go_wp2_with (first | ((with_reducible refine gate_builtin (b := .append) (xs := #[.tmp 51, .tmp 53]) rfl ?_); at_builtin; refine Kd.S_append (Kd.slice 2 (Kd.int .i64)) (w0 := w) w.heap.size rfl (.tmp 51) (.tmp 53) 22 23 (.slice none 0 0) 24 rfl Try.underlying22 info23 rfl (by decide) (by omega) u5 x5_1 x7_2 [.slice Ao26 x7_2.length co26] (fun _ => True) (fun k_ => some k_ = (.slice Ao26 x7_2.length co26 : Value).ownBlock) rfl rfl ?aP (fun k_ hk_ => ((Kd.R_mono (ok' := fun k_ => ((fun _ => True)) k_ ∧ some k_ ≠ (u5 : Value).ownBlock) (Kd.R_apart' (HO_7.out) (Kd.S_typed HO_5.out) (by decide)) (fun k_ hk => ⟨trivial, hk.2⟩))).1 k_ hk_.symm) ?aF ?aO ?aB ?aS ?aL ?_; (case aP => exact Kd.M_row (Kd.R_mono (Kd.R_tight rfl (Kd.R_mono (ok' := fun k_ => ((fun _ => True)) k_ ∧ some k_ ≠ (u5 : Value).ownBlock) (Kd.R_apart' (HO_7.out) (Kd.S_typed HO_5.out) (by decide)) (fun k_ hk => ⟨trivial, hk.2⟩))) (fun _ h_ => h_))); (case aB => exact hb_); (case aF => exact (fun _ _ => trivial)); (case aO => exact (by (with_reducible repeat (first | apply Kd.S_alloc | apply Kd.S_drewN | apply Kd.S_drew)); exact Kd.S_mono HO_5.out (fun k_ hk => ⟨trivial, fun e_ => hk e_⟩))); (case aS => exact bz_); (case aL => have := LMc24.out; omega); intro v228 w25 ho hb hg hat; rw [← Ny227.out] at ho; have n0_ := Aside0.mk (hb); have n1_ := Aside0.mk (ho); clear HB; clear HO_5; clear HO_7; have HB := n0_; have HO229 := n1_; clear n0_ n1_; clear ho hb hg hat))
        go_roundg k2
        case measure => have := HK1.out; have := HK2.out; omega
        case rel => exact ⟨(y227), (wrap64 (x6_1 + 1)), rs_, H', ⟨by have := HK1.out; have := HK2.out; omega⟩, ⟨so_ HO229.out⟩, ⟨hb_⟩⟩
       ·rw [if_neg c24] at H
        exact absurd H (by simp)
   ·rw [if_neg c5] at H
    have c5b0 : decide (x6_1 < (l0.length : Int)) = false := decide_eq_false c5
    clear c5
    obtain rfl := Option.some.inj H
    go_wp2
    go_ret
    exact ⟨_, by first | rfl | (simp [errW_none, errW_some] <;> rfl) | (simp [*, errW_none, errW_some] <;> rfl), so_ HO_5.out, hb_⟩
end Go.Proofs.Ythdoilfjcgickaa.Pr
end
section
namespace Go.Proofs.Ythdoilfjcgickaa.Pr
open Go Go.RowKit Go.Proofs.YthdoilfjcgickaaW.PrintWords Go.Proofs.YthdoilfjcgickaaW.PrintLast Go.Proofs.YthdoilfjcgickaaW.PrintMore
theorem run_eql_slice_nil {P : Program} (w : World) (t e : TypeId) (a : Option Addr) (l c : Nat) (h : P.underlying t = some (.slice e)) : (binOp .eql t (.slice a l c) (.slice none 0 0)).run P w = .ok (.bool a.isNone) w := by
 simp only [binOp]
 simp [run_equal_slice_nil w t e a l c h]
def slices_Clone.f (l0 : List Int) : Option (List Int) := if l0.length ≤ 1099511627776 then some l0 else none
theorem slices_Clone.calls (A0 : Option Addr) (c0 : Nat) (l0 : List Int) (r : List Int) (w : World) (hr0 : Kd.C (Kd.int .i64) w A0 l0.length l0) (hc0 : l0.length ≤ c0) (h : slices_Clone.f l0 = some r) :
  Calls Try.prog 156 #[.slice A0 l0.length c0] w fun e w' => ∃ v0_ : Value, e = .returned (v0_) ∧ Kd.R (Kd.int .i64) 2 w' w.heap.size (fun _ => True) v0_ r ∧ Below w.heap.size w w' := by
 unfold slices_Clone.f at h
 split at h
 case isFalse => cases h
 rename_i hl
 cases h
 have hu := Try.underlying23
 have HR := Aside0.mk hr0
 have HL := Aside0.mk hl
 clear hc0 hl
 cases A0 with
 | none =>
  have h0 : l0 = [] := by
   cases l0 with
   | nil => rfl
   | cons a t => obtain ⟨ad, e, _⟩ := Kd.at_int hr0 0 (by simp) (by simp); cases e
  subst h0
  clear hr0 HR
  have he := run_eql_slice_nil (P := Try.prog) w 23 2 none 0 c0 hu
  go_enter Try.func156, Try.ntmps156
  go_wp2
  go_ret
  exact ⟨_, rfl, Kd.R_nil _ _ _ _ _, Below.refl _ _⟩
 | some ad =>
  clear hr0
  have he := run_eql_slice_nil (P := Try.prog) w 23 2 (some ad) l0.length c0 hu
  go_enter Try.func156, Try.ntmps156
  go_wp2_with (first | ((with_reducible refine gate_dst (N := 5) rfl ?_); refine Kd.R_lit (Kd.int .i64) _ 2 ?hg (N := 5) ?hd (xs := ([] : List Int)) (inner := []) (ok := fun _ => True) (okp := fun _ => True) ?hr ?hp (fun _ hk => hk) trivial (Below.refl _ _) (Nat.le_refl _) (by simp) ?_; (case hd => rfl); (case hg => rfl); (case hr => first | (go_simp; done) | (go_simp; rfl)); (case hp => exact (Reps.none _ _)); intro v1 w1 ho hb hg_ hat_; clear hg_ hat_; have HO := Aside0.mk ho; have HB := Aside0.mk hb; clear ho hb) | ((with_reducible refine gate_dst (N := 7) rfl ?_); (refine Kd.R_append_row (Value.int .i64) 0 (w0 := w) w.heap.size rfl (.tmp 5) (.tmp 6) 23 2 (.int .i64 0) 8 rfl Try.underlying23 info2 rfl (by decide) v1 [] l0 (some ad) l0.length c0 (fun _ => True) (by rfl) (by rfl) (fun _ _ => trivial) HO.out (Kd.C_below HR.out HB.out) HB.out HB.out.size (by have := HL.out; simp; omega) ?_; intro v2 w2 ho hb hg_ hat_; clear hg_ hat_; have HO2 := Aside0.mk ho; have HB2 := Aside0.mk hb; clear ho hb)))
  go_ret
  exact ⟨_, rfl, HO2.out, HB2.out⟩
end Go.Proofs.Ythdoilfjcgickaa.Pr
end
section
namespace Go.Proofs.Ythdoilfjcgickaa.Pr
open Go.RowKit Go.Proofs.YthdoilfjcgickaaW.PrintWords Go.Proofs.YthdoilfjcgickaaW.PrintLast Go.Proofs.YthdoilfjcgickaaW.PrintMore
attribute [local go_sem] max2_int min2_int max_two min_two max_three min_three max_four min_four
def impl_has.f (a0 : Int) (a1 : Int) : Option (Bool) := if 0 ≤ a1 then (some ((Go.bits .and .i64 (shr .i64 a0 a1) 1) == 1)) else (none)
theorem impl_has.calls (a0 : Int) (a1 : Int) (r : Bool) (w : World) (h : impl_has.f a0 a1 = some r) :
  Calls Try.prog 109 #[.int .i64 a0, .int .i64 a1] w fun e w' => e = .returned (.bool r) ∧ Drawn0 w w' := by
 have H : (if 0 ≤ a1 then (some ((Go.bits .and .i64 (shr .i64 a0 a1) 1) == 1)) else (none)) = some r := h
 clear h
 by_cases c3 : 0 ≤ a1
 ·rw [if_pos c3] at H
  have c3b0 := eq_true c3
  have c3b1 : decide (0 ≤ a1) = true := decide_eq_true c3
  clear c3
  obtain ⟨ji4, hji4⟩ : ∃ j_ : Int, (shr .i64 a0 a1) = j_ := ⟨_, rfl⟩
  replace H : (some ((Go.bits .and .i64 (ji4) 1) == 1)) = some r := by first | (rw [hji4] at H; exact H) | (simp only [hji4] at H ⊢; exact H)
  have hji4_ : (a0 / 2 ^ min a1.toNat 64) = ji4 := hji4
  have hji4z : a1 ≤ 64 → (a0 / 2 ^ a1.toNat) = ji4 := shr_small hji4
  obtain rfl := Option.some.inj H
  go_enter Try.func109, Try.ntmps109
  go_wp2
  go_ret
  exact ⟨by first | rfl | (simp; done) | (simp only [← hji4] <;> (first | rfl | simp)) | (simp [*]; done), by repeat (first | exact Drawn0.refl _ | apply Drawn0.step)⟩
 ·rw [if_neg c3] at H
  exact absurd H (by simp)
mutual
def impl_part.l0 : Nat → Int → Int → List (List Int) → List (List Int) → Int → Int → Option ((List (List Int)))
 | 0, _, _, _, _, _, _ => none
 | k + 1, x1, x2, x7, x13, x14, x15 => if x15 < x14 then (if 0 ≤ x15 then (if x15 < (x13.length : Int) then ((impl_has.f x1 x15).bind fun t566 => (if t566 = true then (impl_part.l1 k x1 x2 x7 ([] : List Int) x13 x14 x15 (rd_L1 x13 x15) ((rd_L1 x13 x15).length : Int) 0) else (impl_part.l0 k x1 x2 x7 x13 x14 (wrap64 (x15 + 1))))) else (none)) else (none)) else (some x7)
def impl_part.l1 : Nat → Int → Int → List (List Int) → List Int → List (List Int) → Int → Int → List Int → Int → Int → Option ((List (List Int)))
 | 0, _, _, _, _, _, _, _, _, _, _ => none
 | k + 1, x1, x2, x7, x10, x13, x14, x15, x24, x25, x26 => if x26 < x25 then (if 0 ≤ x26 then (if x26 < (x24.length : Int) then ((impl_has.f x2 x26).bind fun t568 => (if t568 = true then (if x10.length < 17592186044416 then (impl_part.l1 k x1 x2 x7 (x10 ++ [rd x24 x26]) x13 x14 x15 x24 x25 (wrap64 (x26 + 1))) else (none)) else (impl_part.l1 k x1 x2 x7 x10 x13 x14 x15 x24 x25 (wrap64 (x26 + 1))))) else (none)) else (none)) else (if x7.length < 5864062014805 then (impl_part.l0 k x1 x2 (x7 ++ [x10]) x13 x14 (wrap64 (x15 + 1))) else (none))
end
def impl_part.f (k : Nat) (l0 : List (List Int)) (a1 : Int) (a2 : Int) : Option ((List (List Int))) := impl_part.l0 k a1 a2 ([] : List (List Int)) l0 (l0.length : Int) 0
theorem impl_part.mono_l : ∀ k, (∀ y0 y1 y2 y3 y4 y5, LeO (impl_part.l0 k y0 y1 y2 y3 y4 y5) (impl_part.l0 (k + 1) y0 y1 y2 y3 y4 y5)) ∧ (∀ y0 y1 y2 y3 y4 y5 y6 y7 y8 y9, LeO (impl_part.l1 k y0 y1 y2 y3 y4 y5 y6 y7 y8 y9) (impl_part.l1 (k + 1) y0 y1 y2 y3 y4 y5 y6 y7 y8 y9))
 | 0 => ⟨fun _ _ _ _ _ _ r h => by simp [impl_part.l0] at h, fun _ _ _ _ _ _ _ _ _ _ r h => by simp [impl_part.l1] at h⟩
 | k + 1 => by
  obtain ⟨ih0, ih1⟩ := impl_part.mono_l k
  refine ⟨?_, ?_⟩
  ·intro y0 y1 y2 y3 y4 y5
   unfold impl_part.l0
   repeat' first
   | (with_reducible exact ih0 _ _ _ _ _ _)
   | (with_reducible exact ih1 _ _ _ _ _ _ _ _ _ _)
   | (with_reducible exact LeO.refl _)
   | (with_reducible exact LeO.none _)
   | (with_reducible refine LeO.ite ?_ ?_)
   | (with_reducible refine LeO.bind ?_ (fun _ => ?_))
   | exact ih0 _ _ _ _ _ _
   | exact ih1 _ _ _ _ _ _ _ _ _ _
   | exact LeO.none _
   | refine LeO.ite ?_ ?_
   | refine LeO.bind ?_ (fun _ => ?_)
  ·intro y0 y1 y2 y3 y4 y5 y6 y7 y8 y9
   unfold impl_part.l1
   repeat' first
   | (with_reducible exact ih0 _ _ _ _ _ _)
   | (with_reducible exact ih1 _ _ _ _ _ _ _ _ _ _)
   | (with_reducible exact LeO.refl _)
   | (with_reducible exact LeO.none _)
   | (with_reducible refine LeO.ite ?_ ?_)
   | (with_reducible refine LeO.bind ?_ (fun _ => ?_))
   | exact ih0 _ _ _ _ _ _
   | exact ih1 _ _ _ _ _ _ _ _ _ _
   | exact LeO.none _
   | refine LeO.ite ?_ ?_
   | refine LeO.bind ?_ (fun _ => ?_)
theorem impl_part.mono : ∀ a0 a1 a2 k, LeO (impl_part.f k a0 a1 a2) (impl_part.f (k + 1) a0 a1 a2) := by
 intro a0 a1 a2 k
 obtain ⟨ih0, ih1⟩ := impl_part.mono_l k
 unfold impl_part.f
 repeat' first
   | (with_reducible exact ih0 _ _ _ _ _ _)
   | (with_reducible exact ih1 _ _ _ _ _ _ _ _ _ _)
   | (with_reducible exact LeO.refl _)
   | (with_reducible exact LeO.none _)
   | (with_reducible refine LeO.ite ?_ ?_)
   | (with_reducible refine LeO.bind ?_ (fun _ => ?_))
   | exact ih0 _ _ _ _ _ _
   | exact ih1 _ _ _ _ _ _ _ _ _ _
   | exact LeO.none _
   | refine LeO.ite ?_ ?_
   | refine LeO.bind ?_ (fun _ => ?_)
theorem impl_part.calls (k : Nat) (A0 : Option Addr) (c0 : Nat) (l0 : List (List Int)) (a1 : Int) (a2 : Int) (r : List (List Int)) (w : World) (hr0 : Kd.C (Kd.slice 2 (Kd.int .i64)) w A0 l0.length l0) (hc0 : l0.length ≤ c0) (h : impl_part.f k l0 a1 a2 = some r) :
  Calls Try.prog 77 #[.slice A0 l0.length c0, .int .i64 a1, .int .i64 a2] w fun e w' => ∃ v0_ : Value, e = .returned (v0_) ∧ Kd.S (Kd.slice 2 (Kd.int .i64)) 23 w' w.heap.size (fun _ => True) v0_ r ∧ Below w.heap.size w w' := by
 have HR0 := Aside0.mk hr0
 have HC0 := Aside0.mk hc0
 clear hr0 hc0
 have HB := Aside0.mk (Below.refl w.heap.size w)
 have H : (impl_part.l0 k a1 a2 ([] : List (List Int)) l0 (l0.length : Int) 0) = some r := h
 clear h
 have H' := Aside0.mk H
 clear H
 go_enter Try.func77, Try.ntmps77
 go_wp2
 go_loopg [7, 15] k (fun kq v7 v15 w' => ∃ (x7_1 : List (List Int)) (x15_1 : Int), v15 = .int .i64 x15_1 ∧ Aside0 (impl_part.l0 kq a1 a2 x7_1 l0 (l0.length : Int) x15_1 = some r) ∧ Aside0 (kq ≤ k) ∧ Aside0 (Kd.S (Kd.slice 2 (Kd.int .i64)) 23 w' w.heap.size (fun _ => True) v7 x7_1) ∧ Aside0 (Below w.heap.size w w'))
 case atStart => exact ⟨(([] : List (List Int))), (0), rs_, H', ⟨Nat.le_refl _⟩, ⟨by first | exact Kd.S_nil _ _ _ _ _ | exact Kd.N_nil _ _ _ _ _ | exact Kd.V_nil _ _ _ _ _ | exact Kd.Q_nil _ _ _ _ _ | exact Kd.R_nil _ _ _ _ _⟩, ⟨hb_⟩⟩
 case round =>
  clear H'
  try clear p2
  obtain ⟨x7_1, x15_1, rfl, HA, HK1, HO_7, HB⟩ := hrel
  cases gk with
  | zero => exact absurd HA.out (by simp [impl_part.l0])
  | succ k1 =>
   have H := HA.out
   clear HA
   simp only [impl_part.l0] at H
   by_cases c4 : x15_1 < (l0.length : Int)
   ·rw [if_pos c4] at H
    have c4b0 : decide (x15_1 < (l0.length : Int)) = true := decide_eq_true c4
    clear c4
    by_cases c5 : 0 ≤ x15_1
    ·rw [if_pos c5] at H
     have c5b0 : decide (0 ≤ x15_1) = true := decide_eq_true c5
     clear c5
     by_cases c6 : x15_1 < (l0.length : Int)
     ·rw [if_pos c6] at H
      have c6b0 : decide (x15_1 < (l0.length : Int)) = true := decide_eq_true c6
      clear c6
      replace H := Option.bind_eq_some_iff.mp H
      obtain ⟨t566, A70, H⟩ := H
      replace H : (if t566 = true then (impl_part.l1 k1 a1 a2 x7_1 ([] : List Int) l0 (l0.length : Int) x15_1 (rd_L1 l0 x15_1) ((rd_L1 l0 x15_1).length : Int) 0) else (impl_part.l0 k1 a1 a2 x7_1 l0 (l0.length : Int) (wrap64 (x15_1 + 1)))) = some r := H
      have A7 := Aside0.mk A70
      clear A70
      by_cases c8 : t566 = true
      ·subst c8
       have H1 : (impl_part.l1 k1 a1 a2 x7_1 ([] : List Int) l0 (l0.length : Int) x15_1 (rd_L1 l0 x15_1) ((rd_L1 l0 x15_1).length : Int) 0) = some r := by rw [if_pos rfl] at H; exact H
       clear H
       have H := H1
       clear H1
       have H' := Aside0.mk H
       clear H
       have p565 : 0 ≤ (x15_1 : Int) := od_
       have q565 : x15_1 < (l0.length : Int) := od_
       obtain ⟨ad565, A565_0, c565_0, e565, hx565_0, hl565_0, hi565_0⟩ := at_L1 HR0.out x15_1 p565 q565
       cases e565
       replace hx565_0 := (HB.out.cell (World.block_lt_of_cell? w _ hx565_0)).trans hx565_0
       have HR565_0 := Aside0.mk hi565_0
       have HC565_0 := Aside0.mk hl565_0
       clear hi565_0 hl565_0
       replace p565 := eq_true p565
       replace q565 := eq_true q565
       go_wp2_with (first | ((with_reducible refine gate_callee (f := 109) rfl ?_); refine gL_ 22 Try.func109 #[.int .i64 a1, .int .i64 x15_1] ?_; (with_reducible refine (impl_has.calls a1 x15_1 true _ A7.out).mono ?_); rintro e w' ⟨rfl, ⟨nd, rfl⟩⟩; refine ⟨_, rfl, ?_⟩))
       go_loopg [10, 26] k1 (fun kq v10 v26 w' => ∃ (x10_2 : List Int) (x26_2 : Int), v26 = .int .i64 x26_2 ∧ Aside0 (impl_part.l1 kq a1 a2 x7_1 x10_2 l0 (l0.length : Int) x15_1 (rd_L1 l0 x15_1) ((rd_L1 l0 x15_1).length : Int) x26_2 = some r) ∧ Aside0 (kq ≤ k1) ∧ Aside0 (Kd.S (Kd.slice 2 (Kd.int .i64)) 23 w' w.heap.size (fun k_ => some k_ ≠ (v10 : Value).ownBlock) u7 x7_1) ∧ Aside0 (Kd.R (Kd.int .i64) 2 w' w.heap.size (fun _ => True) v10 x10_2) ∧ Aside0 (Below w.heap.size w w'))
       case atStart => exact ⟨(([] : List Int)), (0), rs_, H', ⟨Nat.le_refl _⟩, ⟨by (with_reducible repeat (first | apply Kd.S_alloc | apply Kd.S_drewN | apply Kd.S_drew)); exact Kd.S_mono HO_7.out (fun _ hk => (by simp [Value.ownBlock]))⟩, ⟨by first | exact Kd.R_nil _ _ _ _ _ | exact Kd.N_nil _ _ _ _ _ | exact Kd.V_nil _ _ _ _ _ | exact Kd.Q_nil _ _ _ _ _ | exact Kd.S_nil _ _ _ _ _⟩, ⟨hb_⟩⟩
       case round =>
        clear H'
        try clear c1
        try clear p2
        try clear c4
        try clear c4b0
        try clear c5
        try clear c5b0
        try clear p5
        try clear q5
        try clear hx5
        try clear c6
        try clear c6b0
        try clear p6
        try clear c7
        try clear c8
        try clear hx565_0
        try clear p2
        try clear p565
        try clear q565
        obtain ⟨x10_2, x26_2, rfl, HA, HK2, HO_7, HO_10, HB⟩ := hrel
        cases gk with
        | zero => exact absurd HA.out (by simp [impl_part.l1])
        | succ k2 =>
         have H := HA.out
         clear HA
         simp only [impl_part.l1] at H
         by_cases c9 : x26_2 < ((rd_L1 l0 x15_1).length : Int)
         ·rw [if_pos c9] at H
          have c9b0 : decide (x26_2 < ((rd_L1 l0 x15_1).length : Int)) = true := decide_eq_true c9
          clear c9
          by_cases c10 : 0 ≤ x26_2
          ·rw [if_pos c10] at H
           have c10b0 : decide (0 ≤ x26_2) = true := decide_eq_true c10
           clear c10
           by_cases c11 : x26_2 < ((rd_L1 l0 x15_1).length : Int)
           ·rw [if_pos c11] at H
            have c11b0 : decide (x26_2 < ((rd_L1 l0 x15_1).length : Int)) = true := decide_eq_true c11
            clear c11
            replace H := Option.bind_eq_some_iff.mp H
            obtain ⟨t568, A120, H⟩ := H
            replace H : (if t568 = true then (if x10_2.length < 17592186044416 then (impl_part.l1 k2 a1 a2 x7_1 (x10_2 ++ [rd (rd_L1 l0 x15_1) x26_2]) l0 (l0.length : Int) x15_1 (rd_L1 l0 x15_1) ((rd_L1 l0 x15_1).length : Int) (wrap64 (x26_2 + 1))) else (none)) else (impl_part.l1 k2 a1 a2 x7_1 x10_2 l0 (l0.length : Int) x15_1 (rd_L1 l0 x15_1) ((rd_L1 l0 x15_1).length : Int) (wrap64 (x26_2 + 1)))) = some r := H
            have A12 := Aside0.mk A120
            clear A120
            by_cases c13 : t568 = true
            ·subst c13
             have H1 : (if x10_2.length < 17592186044416 then (impl_part.l1 k2 a1 a2 x7_1 (x10_2 ++ [rd (rd_L1 l0 x15_1) x26_2]) l0 (l0.length : Int) x15_1 (rd_L1 l0 x15_1) ((rd_L1 l0 x15_1).length : Int) (wrap64 (x26_2 + 1))) else (none)) = some r := by rw [if_pos rfl] at H; exact H
             clear H
             have H := H1
             clear H1
             by_cases c14 : x10_2.length < 17592186044416
             ·rw [if_pos c14] at H
              have LMc14 := Aside0.mk c14
              clear c14
              obtain ⟨y569, hy569⟩ : ∃ y_ : List Int, y_ = (x10_2 ++ [rd (rd_L1 l0 x15_1) x26_2]) := ⟨_, rfl⟩
              replace H : (impl_part.l1 k2 a1 a2 x7_1 y569 l0 (l0.length : Int) x15_1 (rd_L1 l0 x15_1) ((rd_L1 l0 x15_1).length : Int) (wrap64 (x26_2 + 1))) = some r := by first | (rw [hy569]; with_reducible exact H) | (have H2_ := (Option.bind_some _ _).symm.trans H; rw [hy569]; with_reducible exact H2_) | (have H2_ := (Option.bind_some _ _).symm.trans H; with_reducible exact H2_) | with_reducible exact H | (rw [hy569]; exact H) | exact H
              have Ny569 := Aside0.mk hy569
              clear hy569
              have H' := Aside0.mk H
              clear H
              have p567 : 0 ≤ (x26_2 : Int) := od_
              have q567 : x26_2 < ((rd_L1 l0 x15_1).length : Int) := od_
              obtain ⟨ad567, e567, hx567_0⟩ := Kd.at_int HR565_0.out x26_2 p567 q567
              cases e567
              replace hx567_0 := (HB.out.cell (World.block_lt_of_cell? w _ hx567_0)).trans hx567_0
              replace p567 := eq_true p567
              replace q567 := eq_true q567
              go_wp2_with (first | ((with_reducible refine gate_callee (f := 109) rfl ?_); refine gL_ 33 Try.func109 #[.int .i64 a2, .int .i64 x26_2] ?_; (with_reducible refine (impl_has.calls a2 x26_2 true _ A12.out).mono ?_); rintro e w' ⟨rfl, ⟨nd, rfl⟩⟩; refine ⟨_, rfl, ?_⟩) | ((with_reducible refine gate_builtin (b := .append) (xs := #[.tmp 34, .tmp 36]) rfl ?_); at_builtin; refine Kd.R_append (Kd.int .i64) (w0 := w) w.heap.size rfl (.tmp 34) (.tmp 36) 23 2 (.int .i64 0) 8 rfl Try.underlying23 info2 rfl (by decide) (by omega) u10 x10_2 (rd (rd_L1 l0 x15_1) x26_2) [.int .i64 (rd (rd_L1 l0 x15_1) x26_2)] (fun _ => True) (fun _ => False) rfl rfl ?aP (fun _ hk => hk.elim) ?aF ?aO ?aB ?aS ?aL ?_; (case aP => exact rfl); (case aB => exact hb_); (case aF => exact (fun _ _ => trivial)); (case aO => exact (ro_ HO_10.out)); (case aS => exact bz_); (case aL => have := LMc14.out; omega); intro v570 w15 ho hb hg hat; rw [← Ny569.out] at ho; have n0_ := Aside0.mk (Kd.S_after (ok := (fun _ => True)) (by (with_reducible repeat (first | apply Kd.S_alloc | apply Kd.S_drewN | apply Kd.S_drew)); exact Kd.S_mono HO_7.out (fun _ hk => ⟨trivial, hk⟩)) hg hat); have n1_ := Aside0.mk (hb); have n2_ := Aside0.mk (ho); clear HO_7; clear HB; clear HO_10; have HO_7 := n0_; have HB := n1_; have HO571 := n2_; clear n0_ n1_ n2_; clear ho hb hg hat))
              go_roundg k2
              case measure => have := HK1.out; have := HK2.out; omega
              case rel => exact ⟨(y569), (wrap64 (x26_2 + 1)), rs_, H', ⟨by have := HK1.out; have := HK2.out; omega⟩, ⟨by (with_reducible repeat (first | apply Kd.S_alloc | apply Kd.S_drewN | apply Kd.S_drew)); exact Kd.S_mono HO_7.out (fun _ hk => hk.2)⟩, ⟨ro_ HO571.out⟩, ⟨hb_⟩⟩
             ·rw [if_neg c14] at H
              exact absurd H (by simp)
            ·replace c13 := Bool.eq_false_iff.mpr c13
             subst c13
             have H1 : (impl_part.l1 k2 a1 a2 x7_1 x10_2 l0 (l0.length : Int) x15_1 (rd_L1 l0 x15_1) ((rd_L1 l0 x15_1).length : Int) (wrap64 (x26_2 + 1))) = some r := by rw [if_neg (show ¬ (false = true) by decide)] at H; exact H
             clear H
             have H := H1
             clear H1
             have H' := Aside0.mk H
             clear H
             have p567 : 0 ≤ (x26_2 : Int) := od_
             have q567 : x26_2 < ((rd_L1 l0 x15_1).length : Int) := od_
             obtain ⟨ad567, e567, hx567_0⟩ := Kd.at_int HR565_0.out x26_2 p567 q567
             cases e567
             replace hx567_0 := (HB.out.cell (World.block_lt_of_cell? w _ hx567_0)).trans hx567_0
             replace p567 := eq_true p567
             replace q567 := eq_true q567
             go_wp2_with (first | ((with_reducible refine gate_callee (f := 109) rfl ?_); refine gL_ 33 Try.func109 #[.int .i64 a2, .int .i64 x26_2] ?_; (with_reducible refine (impl_has.calls a2 x26_2 false _ A12.out).mono ?_); rintro e w' ⟨rfl, ⟨nd, rfl⟩⟩; refine ⟨_, rfl, ?_⟩))
             go_roundg k2
             case measure => have := HK1.out; have := HK2.out; omega
             case rel => exact ⟨(x10_2), (wrap64 (x26_2 + 1)), rs_, H', ⟨by have := HK1.out; have := HK2.out; omega⟩, ⟨so_ HO_7.out⟩, ⟨ro_ HO_10.out⟩, ⟨hb_⟩⟩
           ·rw [if_neg c11] at H
            exact absurd H (by simp)
          ·rw [if_neg c10] at H
           exact absurd H (by simp)
         ·rw [if_neg c9] at H
          have c9b0 : decide (x26_2 < ((rd_L1 l0 x15_1).length : Int)) = false := decide_eq_false c9
          clear c9
          by_cases c16 : x7_1.length < 5864062014805
          ·rw [if_pos c16] at H
           have LMc16 := Aside0.mk c16
           clear c16
           obtain ⟨y572, hy572⟩ : ∃ y_ : List (List Int), y_ = (x7_1 ++ [x10_2]) := ⟨_, rfl⟩
           replace H : (impl_part.l0 k2 a1 a2 y572 l0 (l0.length : Int) (wrap64 (x15_1 + 1))) = some r := by first | (rw [hy572]; with_reducible exact H) | (have H2_ := (Option.bind_some _ _).symm.trans H; rw [hy572]; with_reducible exact H2_) | (have H2_ := (Option.bind_some _ _).symm.trans H; with_reducible exact H2_) | with_reducible exact H | (rw [hy572]; exact H) | exact H
           have Ny572 := Aside0.mk hy572
           clear hy572
           have H' := Aside0.mk H
           clear H
           obtain ⟨Ao18, co18, eo18⟩ := Kd.R_slice HO_10.out
           subst eo18
           go_wp2_with (first | ((with_reducible refine gate_builtin (b := .append) (xs := #[.tmp 39, .tmp 41]) rfl ?_); at_builtin; refine Kd.S_append (Kd.slice 2 (Kd.int .i64)) (w0 := w) w.heap.size rfl (.tmp 39) (.tmp 41) 22 23 (.slice none 0 0) 24 rfl Try.underlying22 info23 rfl (by decide) (by omega) u7 x7_1 x10_2 [.slice Ao18 x10_2.length co18] (fun _ => True) (fun k_ => some k_ = (.slice Ao18 x10_2.length co18 : Value).ownBlock) rfl rfl ?aP (fun k_ hk_ => ((Kd.R_mono (ok' := fun k_ => ((fun _ => True)) k_ ∧ some k_ ≠ (u7 : Value).ownBlock) (Kd.R_apart' (HO_10.out) (Kd.S_typed HO_7.out) (by decide)) (fun k_ hk => ⟨trivial, hk.2⟩))).1 k_ hk_.symm) ?aF ?aO ?aB ?aS ?aL ?_; (case aP => exact Kd.M_row (Kd.R_mono (Kd.R_tight rfl (Kd.R_mono (ok' := fun k_ => ((fun _ => True)) k_ ∧ some k_ ≠ (u7 : Value).ownBlock) (Kd.R_apart' (HO_10.out) (Kd.S_typed HO_7.out) (by decide)) (fun k_ hk => ⟨trivial, hk.2⟩))) (fun _ h_ => h_))); (case aB => exact hb_); (case aF => exact (fun _ _ => trivial)); (case aO => exact (by (with_reducible repeat (first | apply Kd.S_alloc | apply Kd.S_drewN | apply Kd.S_drew)); exact Kd.S_mono HO_7.out (fun k_ hk => ⟨trivial, fun e_ => hk e_⟩))); (case aS => exact bz_); (case aL => have := LMc16.out; omega); intro v573 w17 ho hb hg hat; rw [← Ny572.out] at ho; have n0_ := Aside0.mk (hb); have n1_ := Aside0.mk (ho); clear HB; clear HO_7; clear HO_10; have HB := n0_; have HO574 := n1_; clear n0_ n1_; clear ho hb hg hat))
           go_roundg k2
           case measure => have := HK1.out; have := HK2.out; omega
           case rel => exact ⟨(y572), (wrap64 (x15_1 + 1)), rs_, H', ⟨by have := HK1.out; have := HK2.out; omega⟩, ⟨so_ HO574.out⟩, ⟨hb_⟩⟩
          ·rw [if_neg c16] at H
           exact absurd H (by simp)
      ·replace c8 := Bool.eq_false_iff.mpr c8
       subst c8
       have H1 : (impl_part.l0 k1 a1 a2 x7_1 l0 (l0.length : Int) (wrap64 (x15_1 + 1))) = some r := by rw [if_neg (show ¬ (false = true) by decide)] at H; exact H
       clear H
       have H := H1
       clear H1
       have H' := Aside0.mk H
       clear H
       have p565 : 0 ≤ (x15_1 : Int) := od_
       have q565 : x15_1 < (l0.length : Int) := od_
       obtain ⟨ad565, A565_0, c565_0, e565, hx565_0, hl565_0, hi565_0⟩ := at_L1 HR0.out x15_1 p565 q565
       cases e565
       replace hx565_0 := (HB.out.cell (World.block_lt_of_cell? w _ hx565_0)).trans hx565_0
       have HR565_0 := Aside0.mk hi565_0
       have HC565_0 := Aside0.mk hl565_0
       clear hi565_0 hl565_0
       replace p565 := eq_true p565
       replace q565 := eq_true q565
       go_wp2_with (first | ((with_reducible refine gate_callee (f := 109) rfl ?_); refine gL_ 22 Try.func109 #[.int .i64 a1, .int .i64 x15_1] ?_; (with_reducible refine (impl_has.calls a1 x15_1 false _ A7.out).mono ?_); rintro e w' ⟨rfl, ⟨nd, rfl⟩⟩; refine ⟨_, rfl, ?_⟩))
       go_roundg k1
       case measure => have := HK1.out; omega
       case rel => exact ⟨(x7_1), (wrap64 (x15_1 + 1)), rs_, H', ⟨by have := HK1.out; omega⟩, ⟨so_ HO_7.out⟩, ⟨hb_⟩⟩
     ·rw [if_neg c6] at H
      exact absurd H (by simp)
    ·rw [if_neg c5] at H
     exact absurd H (by simp)
   ·rw [if_neg c4] at H
    have c4b0 : decide (x15_1 < (l0.length : Int)) = false := decide_eq_false c4
    clear c4
    obtain rfl := Option.some.inj H
    go_wp2
    go_ret
    exact ⟨_, by first | rfl | (simp [errW_none, errW_some] <;> rfl) | (simp [*, errW_none, errW_some] <;> rfl), so_ HO_7.out, hb_⟩
end Go.Proofs.Ythdoilfjcgickaa.Pr
end
section
namespace Go.Proofs.Ythdoilfjcgickaa.Cz
open Go.RowKit Go.Proofs.YthdoilfjcgickaaW.PrintWords Go.Proofs.YthdoilfjcgickaaW.PrintMore Go.Proofs.Ythdoilfjcgickaa.Ma Go.Proofs.Ythdoilfjcgickaa.Pr Go.Proofs.Ythdoilfjcgickaa.Dt Go.Proofs.Ythdoilfjcgickaa.Bz Go.Proofs.Ythdoilfjcgickaa.Un
def en (l : List (List Int)) : Mat := fun i j => (l.getD i []).getD j 0
structure Sq (n : Nat) (l : List (List Int)) : Prop where
 len : l.length = n
 row : ∀ i, i < n → (l.getD i []).length = n
 num : ∀ i j, i < n → j < n → (en l i j).natAbs ≤ 20
theorem rdL1 (l : List (List Int)) (i : Nat) : rd_L1 l (i : Int) = l.getD i [] := by simp [rd_L1]
def rw1 (m : Nat) (f : Nat → Int) : List Int := (List.range m).map f
def mk (r m : Nat) (f : Nat → Nat → Int) : List (List Int) := (List.range r).map fun i => rw1 m (f i)
section
variable {n : Nat} {l : List (List Int)} (h : Sq n l) (hn : n ≤ 5) (s : Int)
include h hn
end
end Go.Proofs.Ythdoilfjcgickaa.Cz
end
section
namespace Go.Proofs.Ythdoilfjcgickaa.Pr
open Go.RowKit Go.Proofs.YthdoilfjcgickaaW.PrintWords Go.Proofs.YthdoilfjcgickaaW.PrintLast Go.Proofs.YthdoilfjcgickaaW.PrintMore
attribute [local go_sem] max2_int min2_int max_two min_two max_three min_three max_four min_four
def spec_l01In.f (a0 : Int) (a1 : Int) (a2 : Int) : Option (Bool) := if a0 ≥ a1 then (some (decide (a0 ≤ a2))) else (some false)
theorem spec_l01In.calls (a0 : Int) (a1 : Int) (a2 : Int) (r : Bool) (w : World) (h : spec_l01In.f a0 a1 a2 = some r) :
  Calls Try.prog 91 #[.int .i64 a0, .int .i64 a1, .int .i64 a2] w fun e w' => e = .returned (.bool r) ∧ Drawn0 w w' := by
 have H : (if a0 ≥ a1 then (some (decide (a0 ≤ a2))) else (some false)) = some r := h
 clear h
 by_cases c4 : a0 ≥ a1
 ·rw [if_pos c4] at H
  have c4b0 : decide (a1 ≤ a0) = true := decide_eq_true c4
  clear c4
  obtain rfl := Option.some.inj H
  go_enter Try.func91, Try.ntmps91
  go_wp2
  go_ret
  exact ⟨by first | rfl | (simp; done) | (simp [*]; done), by repeat (first | exact Drawn0.refl _ | apply Drawn0.step)⟩
 ·rw [if_neg c4] at H
  have c4b0 : decide (a1 ≤ a0) = false := decide_eq_false c4
  clear c4
  obtain rfl := Option.some.inj H
  go_enter Try.func91, Try.ntmps91
  go_wp2
  go_ret
  exact ⟨by first | rfl | (simp; done) | (simp [*]; done), by repeat (first | exact Drawn0.refl _ | apply Drawn0.step)⟩
mutual
def spec_l01Matrix.j0 : Nat → List (List Int) → Int → Bool → Option (Bool)
 | 0, _, _, _ => none
 | k + 1, x0, x3, x13 => if x13 = true then (some false) else (spec_l01Matrix.l0 k x0 x3 0)
def spec_l01Matrix.l0 : Nat → List (List Int) → Int → Int → Option (Bool)
 | 0, _, _, _ => none
 | k + 1, x0, x3, x4 => if x4 < x3 then (if 0 ≤ x4 then (if x4 < (x0.length : Int) then (if ((rd_L1 x0 x4).length : Int) = x3 then (spec_l01Matrix.l1 k x0 x3 x4 0) else (some false)) else (none)) else (none)) else (some true)
def spec_l01Matrix.l1 : Nat → List (List Int) → Int → Int → Int → Option (Bool)
 | 0, _, _, _, _ => none
 | k + 1, x0, x3, x4, x5 => if x5 < x3 then (if 0 ≤ x4 then (if x4 < (x0.length : Int) then (if 0 ≤ x5 then (if x5 < ((rd_L1 x0 x4).length : Int) then ((spec_l01In.f (rd (rd_L1 x0 x4) x5) (-20) 20).bind fun t166 => (if t166 = true then (spec_l01Matrix.l1 k x0 x3 x4 (wrap64 (x5 + 1))) else (some false))) else (none)) else (none)) else (none)) else (none)) else (spec_l01Matrix.l0 k x0 x3 (wrap64 (x4 + 1)))
end
def spec_l01Matrix.f (k : Nat) (l0 : List (List Int)) : Option (Bool) := if (l0.length : Int) < 1 then (spec_l01Matrix.j0 k l0 (l0.length : Int) true) else (spec_l01Matrix.j0 k l0 (l0.length : Int) (decide ((l0.length : Int) > 5)))
theorem spec_l01Matrix.mono_l : ∀ k, (∀ y0 y1 y2, LeO (spec_l01Matrix.j0 k y0 y1 y2) (spec_l01Matrix.j0 (k + 1) y0 y1 y2)) ∧ (∀ y0 y1 y2, LeO (spec_l01Matrix.l0 k y0 y1 y2) (spec_l01Matrix.l0 (k + 1) y0 y1 y2)) ∧ (∀ y0 y1 y2 y3, LeO (spec_l01Matrix.l1 k y0 y1 y2 y3) (spec_l01Matrix.l1 (k + 1) y0 y1 y2 y3))
 | 0 => ⟨fun _ _ _ r h => by simp [spec_l01Matrix.j0] at h, fun _ _ _ r h => by simp [spec_l01Matrix.l0] at h, fun _ _ _ _ r h => by simp [spec_l01Matrix.l1] at h⟩
 | k + 1 => by
  obtain ⟨ih0, ih1, ih2⟩ := spec_l01Matrix.mono_l k
  refine ⟨?_, ?_, ?_⟩
  ·intro y0 y1 y2
   unfold spec_l01Matrix.j0
   repeat' first
   | (with_reducible exact ih0 _ _ _)
   | (with_reducible exact ih1 _ _ _)
   | (with_reducible exact ih2 _ _ _ _)
   | (with_reducible exact LeO.refl _)
   | (with_reducible exact LeO.none _)
   | (with_reducible refine LeO.ite ?_ ?_)
   | (with_reducible refine LeO.bind ?_ (fun _ => ?_))
   | exact ih0 _ _ _
   | exact ih1 _ _ _
   | exact ih2 _ _ _ _
   | exact LeO.none _
   | refine LeO.ite ?_ ?_
   | refine LeO.bind ?_ (fun _ => ?_)
  ·intro y0 y1 y2
   unfold spec_l01Matrix.l0
   repeat' first
   | (with_reducible exact ih0 _ _ _)
   | (with_reducible exact ih1 _ _ _)
   | (with_reducible exact ih2 _ _ _ _)
   | (with_reducible exact LeO.refl _)
   | (with_reducible exact LeO.none _)
   | (with_reducible refine LeO.ite ?_ ?_)
   | (with_reducible refine LeO.bind ?_ (fun _ => ?_))
   | exact ih0 _ _ _
   | exact ih1 _ _ _
   | exact ih2 _ _ _ _
   | exact LeO.none _
   | refine LeO.ite ?_ ?_
   | refine LeO.bind ?_ (fun _ => ?_)
  ·intro y0 y1 y2 y3
   unfold spec_l01Matrix.l1
   repeat' first
   | (with_reducible exact ih0 _ _ _)
   | (with_reducible exact ih1 _ _ _)
   | (with_reducible exact ih2 _ _ _ _)
   | (with_reducible exact LeO.refl _)
   | (with_reducible exact LeO.none _)
   | (with_reducible refine LeO.ite ?_ ?_)
   | (with_reducible refine LeO.bind ?_ (fun _ => ?_))
   | exact ih0 _ _ _
   | exact ih1 _ _ _
   | exact ih2 _ _ _ _
   | exact LeO.none _
   | refine LeO.ite ?_ ?_
   | refine LeO.bind ?_ (fun _ => ?_)
theorem spec_l01Matrix.mono : ∀ a0 k, LeO (spec_l01Matrix.f k a0) (spec_l01Matrix.f (k + 1) a0) := by
 intro a0 k
 obtain ⟨ih0, ih1, ih2⟩ := spec_l01Matrix.mono_l k
 unfold spec_l01Matrix.f
 repeat' first
   | (with_reducible exact ih0 _ _ _)
   | (with_reducible exact ih1 _ _ _)
   | (with_reducible exact ih2 _ _ _ _)
   | (with_reducible exact LeO.refl _)
   | (with_reducible exact LeO.none _)
   | (with_reducible refine LeO.ite ?_ ?_)
   | (with_reducible refine LeO.bind ?_ (fun _ => ?_))
   | exact ih0 _ _ _
   | exact ih1 _ _ _
   | exact ih2 _ _ _ _
   | exact LeO.none _
   | refine LeO.ite ?_ ?_
   | refine LeO.bind ?_ (fun _ => ?_)
theorem spec_l01Matrix.calls (k : Nat) (A0 : Option Addr) (c0 : Nat) (l0 : List (List Int)) (r : Bool) (w : World) (hr0 : Kd.C (Kd.slice 2 (Kd.int .i64)) w A0 l0.length l0) (hc0 : l0.length ≤ c0) (h : spec_l01Matrix.f k l0 = some r) :
  Calls Try.prog 102 #[.slice A0 l0.length c0] w fun e w' => e = .returned (.bool r) ∧ Drawn0 w w' := by
 have HR0 := Aside0.mk hr0
 have HC0 := Aside0.mk hc0
 clear hr0 hc0
 have H : (if (l0.length : Int) < 1 then (spec_l01Matrix.j0 k l0 (l0.length : Int) true) else (spec_l01Matrix.j0 k l0 (l0.length : Int) (decide ((l0.length : Int) > 5)))) = some r := h
 clear h
 have HC2 := Aside0.mk H
 clear H
 go_enter Try.func102, Try.ntmps102
 go_upto_region 2 with (fail)
 go_cut [13] (fun v13 wc => ∃ (kq : Nat) (x13_1 : Bool), v13 = .bool x13_1 ∧ Aside0 (spec_l01Matrix.j0 kq l0 (l0.length : Int) x13_1 = some r) ∧ Aside0 (kq ≤ k) ∧ Drawn0 w wc)
 case first =>
  have H := HC2.out
  clear HC2
  by_cases c3 : (l0.length : Int) < 1
  ·rw [if_pos c3] at H
   have c3b0 : decide ((l0.length : Int) < 1) = true := decide_eq_true c3
   have c3b1 : decide (l0.length < 1) = true := decide_eq_true (by omega)
   clear c3
   (first | rw [c3b0] | (simp only [i64_w, i32_w]; rw [c3b0]) | skip)
   have H' := Aside0.mk H
   clear H
   go_wp2
   go_meet
   case rel => exact ⟨_, (true), rs_, H', ⟨by first | omega | exact Nat.le_refl _⟩, by repeat (first | exact Drawn0.refl _ | apply Drawn0.step)⟩
  ·rw [if_neg c3] at H
   have c3b0 : decide ((l0.length : Int) < 1) = false := decide_eq_false c3
   have c3b1 : decide (l0.length < 1) = false := decide_eq_false (by omega)
   clear c3
   (first | rw [c3b0] | (simp only [i64_w, i32_w]; rw [c3b0]) | skip)
   have H' := Aside0.mk H
   clear H
   go_wp2
   go_meet
   case rel => exact ⟨_, (decide ((l0.length : Int) > 5)), rs_, H', ⟨by first | omega | exact Nat.le_refl _⟩, by repeat (first | exact Drawn0.refl _ | apply Drawn0.step)⟩
 case rest =>
  clear HC2
  try clear c1
  try clear p2
  try clear c3
  try clear c3b0
  try clear c3b1
  obtain ⟨kq, x13_1, rfl, HA, HJ1, ⟨mc1, rfl⟩⟩ := hcut
  cases kq with
  | zero => exact absurd HA.out (by simp [spec_l01Matrix.j0])
  | succ kj1 =>
   have H := HA.out
   clear HA
   simp only [spec_l01Matrix.j0] at H
   by_cases c4 : x13_1 = true
   ·subst c4
    have H1 : (some false) = some r := by rw [if_pos rfl] at H; exact H
    clear H
    have H := H1
    clear H1
    obtain rfl := Option.some.inj H
    go_wp2
    go_ret
    exact ⟨by first | rfl | (simp; done) | (simp [*]; done), by repeat (first | exact Drawn0.refl _ | apply Drawn0.step)⟩
   ·replace c4 := Bool.eq_false_iff.mpr c4
    subst c4
    have H1 : (spec_l01Matrix.l0 kj1 l0 (l0.length : Int) 0) = some r := by rw [if_neg (show ¬ (false = true) by decide)] at H; exact H
    clear H
    have H := H1
    clear H1
    have H' := Aside0.mk H
    clear H
    go_wp2
    go_loopg [4] kj1 (fun kq v4 w' => ∃ (x4_2 : Int), v4 = .int .i64 x4_2 ∧ Aside0 (spec_l01Matrix.l0 kq l0 (l0.length : Int) x4_2 = some r) ∧ Aside0 (kq ≤ kj1) ∧ Drawn0 w w')
    case atStart => exact ⟨(0), rs_, H', ⟨Nat.le_refl _⟩, by repeat (first | exact Drawn0.refl _ | apply Drawn0.step)⟩
    case round =>
     clear H'
     try clear c1
     try clear p2
     try clear c3
     try clear c3b0
     try clear c3b1
     try clear c4
     try clear p2
     obtain ⟨x4_2, rfl, HA, HK2, ⟨m2, rfl⟩⟩ := hrel
     cases gk with
     | zero => exact absurd HA.out (by simp [spec_l01Matrix.l0])
     | succ k2 =>
      have H := HA.out
      clear HA
      simp only [spec_l01Matrix.l0] at H
      by_cases c5 : x4_2 < (l0.length : Int)
      ·rw [if_pos c5] at H
       have c5b0 : decide (x4_2 < (l0.length : Int)) = true := decide_eq_true c5
       clear c5
       by_cases c6 : 0 ≤ x4_2
       ·rw [if_pos c6] at H
        have c6b0 : decide (0 ≤ x4_2) = true := decide_eq_true c6
        clear c6
        by_cases c7 : x4_2 < (l0.length : Int)
        ·rw [if_pos c7] at H
         have c7b0 : decide (x4_2 < (l0.length : Int)) = true := decide_eq_true c7
         clear c7
         by_cases c8 : ((rd_L1 l0 x4_2).length : Int) = (l0.length : Int)
         ·rw [if_pos c8] at H
          have c8b0 : (((rd_L1 l0 x4_2).length : Int) == (l0.length : Int)) = true := beq_iff_eq.mpr c8
          have c8b1 : (((rd_L1 l0 x4_2).length : Int) != (l0.length : Int)) = false := bne_eq_false_iff_eq.mpr c8
          have c8b2 : ((rd_L1 l0 x4_2).length == l0.length) = true := by first | simpa using c8 | (simp at c8 ⊢; omega)
          clear c8
          have H' := Aside0.mk H
          clear H
          have p163 : 0 ≤ (x4_2 : Int) := od_
          have q163 : x4_2 < (l0.length : Int) := od_
          obtain ⟨ad163, A163_0, c163_0, e163, hx163_0, hl163_0, hi163_0⟩ := at_L1 HR0.out x4_2 p163 q163
          cases e163
          have HR163_0 := Aside0.mk hi163_0
          have HC163_0 := Aside0.mk hl163_0
          clear hi163_0 hl163_0
          replace p163 := eq_true p163
          replace q163 := eq_true q163
          go_wp2
          go_loopg [5] k2 (fun kq v5 w' => ∃ (x5_3 : Int), v5 = .int .i64 x5_3 ∧ Aside0 (spec_l01Matrix.l1 kq l0 (l0.length : Int) x4_2 x5_3 = some r) ∧ Aside0 (kq ≤ k2) ∧ Drawn0 w w')
          case atStart => exact ⟨(0), rs_, H', ⟨Nat.le_refl _⟩, by repeat (first | exact Drawn0.refl _ | apply Drawn0.step)⟩
          case round =>
           clear H'
           try clear c1
           try clear p1
           try clear q1
           try clear hx1
           try clear p2
           try clear c3
           try clear c3b0
           try clear c3b1
           try clear c4
           try clear c5
           try clear c5b0
           try clear c6
           try clear c6b0
           try clear c7
           try clear c7b0
           try clear c8
           try clear c8b0
           try clear c8b1
           try clear c8b2
           try clear hx163_0
           try clear p163
           try clear p2
           try clear q163
           obtain ⟨x5_3, rfl, HA, HK3, ⟨m3, rfl⟩⟩ := hrel
           cases gk with
           | zero => exact absurd HA.out (by simp [spec_l01Matrix.l1])
           | succ k3 =>
            have H := HA.out
            clear HA
            simp only [spec_l01Matrix.l1] at H
            by_cases c9 : x5_3 < (l0.length : Int)
            ·rw [if_pos c9] at H
             have c9b0 : decide (x5_3 < (l0.length : Int)) = true := decide_eq_true c9
             clear c9
             by_cases c10 : 0 ≤ x4_2
             ·rw [if_pos c10] at H
              have c10b0 : decide (0 ≤ x4_2) = true := decide_eq_true c10
              clear c10
              by_cases c11 : x4_2 < (l0.length : Int)
              ·rw [if_pos c11] at H
               have c11b0 : decide (x4_2 < (l0.length : Int)) = true := decide_eq_true c11
               clear c11
               by_cases c12 : 0 ≤ x5_3
               ·rw [if_pos c12] at H
                have c12b0 : decide (0 ≤ x5_3) = true := decide_eq_true c12
                clear c12
                by_cases c13 : x5_3 < ((rd_L1 l0 x4_2).length : Int)
                ·rw [if_pos c13] at H
                 have c13b0 : decide (x5_3 < ((rd_L1 l0 x4_2).length : Int)) = true := decide_eq_true c13
                 clear c13
                 replace H := Option.bind_eq_some_iff.mp H
                 obtain ⟨t166, A140, H⟩ := H
                 replace H : (if t166 = true then (spec_l01Matrix.l1 k3 l0 (l0.length : Int) x4_2 (wrap64 (x5_3 + 1))) else (some false)) = some r := H
                 have A14 := Aside0.mk A140
                 clear A140
                 by_cases c15 : t166 = true
                 ·subst c15
                  have H1 : (spec_l01Matrix.l1 k3 l0 (l0.length : Int) x4_2 (wrap64 (x5_3 + 1))) = some r := by rw [if_pos rfl] at H; exact H
                  clear H
                  have H := H1
                  clear H1
                  have H' := Aside0.mk H
                  clear H
                  have p164 : 0 ≤ (x4_2 : Int) := od_
                  have q164 : x4_2 < (l0.length : Int) := od_
                  obtain ⟨ad164, A164_0, c164_0, e164, hx164_0, hl164_0, hi164_0⟩ := at_L1 HR0.out x4_2 p164 q164
                  obtain rfl : ad163 = ad164 := (by injection e164)
                  have HR164_0 := Aside0.mk hi164_0
                  have HC164_0 := Aside0.mk hl164_0
                  clear hi164_0 hl164_0
                  replace p164 := eq_true p164
                  replace q164 := eq_true q164
                  have p165 : 0 ≤ (x5_3 : Int) := od_
                  have q165 : x5_3 < ((rd_L1 l0 x4_2).length : Int) := od_
                  obtain ⟨ad165, e165, hx165_0⟩ := Kd.at_int HR164_0.out x5_3 p165 q165
                  cases e165
                  replace p165 := eq_true p165
                  replace q165 := eq_true q165
                  go_wp2_with (first | ((with_reducible refine gate_callee (f := 91) rfl ?_); refine gL_ 38 Try.func91 #[.int .i64 (rd (rd_L1 l0 x4_2) x5_3), .int .i64 (-20), .int .i64 20] ?_; (with_reducible refine (spec_l01In.calls (rd (rd_L1 l0 x4_2) x5_3) (-20) 20 true _ A14.out).mono ?_); rintro e w' ⟨rfl, ⟨nd, rfl⟩⟩; refine ⟨_, rfl, ?_⟩))
                  go_roundg k3
                  case measure => have := HJ1.out; have := HK2.out; have := HK3.out; omega
                  case rel => exact ⟨(wrap64 (x5_3 + 1)), rs_, H', ⟨by have := HJ1.out; have := HK2.out; have := HK3.out; omega⟩, by repeat (first | exact Drawn0.refl _ | apply Drawn0.step)⟩
                 ·replace c15 := Bool.eq_false_iff.mpr c15
                  subst c15
                  have H1 : (some false) = some r := by rw [if_neg (show ¬ (false = true) by decide)] at H; exact H
                  clear H
                  have H := H1
                  clear H1
                  obtain rfl := Option.some.inj H
                  have p164 : 0 ≤ (x4_2 : Int) := od_
                  have q164 : x4_2 < (l0.length : Int) := od_
                  obtain ⟨ad164, A164_0, c164_0, e164, hx164_0, hl164_0, hi164_0⟩ := at_L1 HR0.out x4_2 p164 q164
                  obtain rfl : ad163 = ad164 := (by injection e164)
                  have HR164_0 := Aside0.mk hi164_0
                  have HC164_0 := Aside0.mk hl164_0
                  clear hi164_0 hl164_0
                  replace p164 := eq_true p164
                  replace q164 := eq_true q164
                  have p165 : 0 ≤ (x5_3 : Int) := od_
                  have q165 : x5_3 < ((rd_L1 l0 x4_2).length : Int) := od_
                  obtain ⟨ad165, e165, hx165_0⟩ := Kd.at_int HR164_0.out x5_3 p165 q165
                  cases e165
                  replace p165 := eq_true p165
                  replace q165 := eq_true q165
                  go_wp2_with (first | ((with_reducible refine gate_callee (f := 91) rfl ?_); refine gL_ 38 Try.func91 #[.int .i64 (rd (rd_L1 l0 x4_2) x5_3), .int .i64 (-20), .int .i64 20] ?_; (with_reducible refine (spec_l01In.calls (rd (rd_L1 l0 x4_2) x5_3) (-20) 20 false _ A14.out).mono ?_); rintro e w' ⟨rfl, ⟨nd, rfl⟩⟩; refine ⟨_, rfl, ?_⟩))
                  go_ret
                  exact ⟨by first | rfl | (simp; done) | (simp [*]; done), by repeat (first | exact Drawn0.refl _ | apply Drawn0.step)⟩
                ·rw [if_neg c13] at H
                 exact absurd H (by simp)
               ·rw [if_neg c12] at H
                exact absurd H (by simp)
              ·rw [if_neg c11] at H
               exact absurd H (by simp)
             ·rw [if_neg c10] at H
              exact absurd H (by simp)
            ·rw [if_neg c9] at H
             have c9b0 : decide (x5_3 < (l0.length : Int)) = false := decide_eq_false c9
             clear c9
             have H' := Aside0.mk H
             clear H
             go_wp2
             go_roundg k3
             case measure => have := HJ1.out; have := HK2.out; have := HK3.out; omega
             case rel => exact ⟨(wrap64 (x4_2 + 1)), rs_, H', ⟨by have := HJ1.out; have := HK2.out; have := HK3.out; omega⟩, by repeat (first | exact Drawn0.refl _ | apply Drawn0.step)⟩
         ·rw [if_neg c8] at H
          have c8b0 : (((rd_L1 l0 x4_2).length : Int) == (l0.length : Int)) = false := beq_eq_false_iff_ne.mpr c8
          have c8b1 : (((rd_L1 l0 x4_2).length : Int) != (l0.length : Int)) = true := bne_iff_ne.mpr c8
          have c8b2 : ((rd_L1 l0 x4_2).length == l0.length) = false := by first | simpa using c8 | (simp at c8 ⊢; omega)
          obtain rfl := Option.some.inj H
          have p163 : 0 ≤ (x4_2 : Int) := od_
          have q163 : x4_2 < (l0.length : Int) := od_
          obtain ⟨ad163, A163_0, c163_0, e163, hx163_0, hl163_0, hi163_0⟩ := at_L1 HR0.out x4_2 p163 q163
          cases e163
          have HR163_0 := Aside0.mk hi163_0
          have HC163_0 := Aside0.mk hl163_0
          clear hi163_0 hl163_0
          replace p163 := eq_true p163
          replace q163 := eq_true q163
          go_wp2
          go_ret
          exact ⟨by first | rfl | (simp; done) | (simp [*]; done), by repeat (first | exact Drawn0.refl _ | apply Drawn0.step)⟩
        ·rw [if_neg c7] at H
         exact absurd H (by simp)
       ·rw [if_neg c6] at H
        exact absurd H (by simp)
      ·rw [if_neg c5] at H
       have c5b0 : decide (x4_2 < (l0.length : Int)) = false := decide_eq_false c5
       clear c5
       obtain rfl := Option.some.inj H
       go_wp2
       go_ret
       exact ⟨by first | rfl | (simp; done) | (simp [*]; done), by repeat (first | exact Drawn0.refl _ | apply Drawn0.step)⟩
mutual
def spec_l01Is.j0 : Nat → Bool → List (List Int) → List Int → Option (Bool)
 | 0, _, _, _ => none
 | k + 1, x16, x168000, x168001 => if x16 = true then (some false) else (spec_l01Is.l0 k 0 x168000 x168001)
def spec_l01Is.l0 : Nat → Int → List (List Int) → List Int → Option (Bool)
 | 0, _, _, _ => none
 | k + 1, x3, x168000, x168001 => if x3 < (x168001.length : Int) then (if 0 ≤ x3 then ((spec_l01In.f (rd x168001 x3) (-100) 100).bind fun t170 => (if t170 = true then (spec_l01Is.l0 k (wrap64 (x3 + 1)) x168000 x168001) else (some false))) else (none)) else (some true)
end
def spec_l01Is.f (k : Nat) (l0_0 : List (List Int)) (l0_1 : List Int) : Option (Bool) := (spec_l01Matrix.f k l0_0).bind fun t168 => (if t168 = true then (spec_l01Is.j0 k ((l0_1.length : Int) != (l0_0.length : Int)) l0_0 l0_1) else (spec_l01Is.j0 k true l0_0 l0_1))
theorem spec_l01Is.mono_l : ∀ k, (∀ y0 y1 y2, LeO (spec_l01Is.j0 k y0 y1 y2) (spec_l01Is.j0 (k + 1) y0 y1 y2)) ∧ (∀ y0 y1 y2, LeO (spec_l01Is.l0 k y0 y1 y2) (spec_l01Is.l0 (k + 1) y0 y1 y2))
 | 0 => ⟨fun _ _ _ r h => by simp [spec_l01Is.j0] at h, fun _ _ _ r h => by simp [spec_l01Is.l0] at h⟩
 | k + 1 => by
  obtain ⟨ih0, ih1⟩ := spec_l01Is.mono_l k
  refine ⟨?_, ?_⟩
  ·intro y0 y1 y2
   unfold spec_l01Is.j0
   repeat' first
   | (with_reducible exact ih0 _ _ _)
   | (with_reducible exact ih1 _ _ _)
   | (with_reducible exact spec_l01Matrix.mono _ _)
   | (with_reducible exact LeO.refl _)
   | (with_reducible exact LeO.none _)
   | (with_reducible refine LeO.ite ?_ ?_)
   | (with_reducible refine LeO.bind ?_ (fun _ => ?_))
   | exact ih0 _ _ _
   | exact ih1 _ _ _
   | exact spec_l01Matrix.mono _ _
   | exact LeO.none _
   | refine LeO.ite ?_ ?_
   | refine LeO.bind ?_ (fun _ => ?_)
  ·intro y0 y1 y2
   unfold spec_l01Is.l0
   repeat' first
   | (with_reducible exact ih0 _ _ _)
   | (with_reducible exact ih1 _ _ _)
   | (with_reducible exact spec_l01Matrix.mono _ _)
   | (with_reducible exact LeO.refl _)
   | (with_reducible exact LeO.none _)
   | (with_reducible refine LeO.ite ?_ ?_)
   | (with_reducible refine LeO.bind ?_ (fun _ => ?_))
   | exact ih0 _ _ _
   | exact ih1 _ _ _
   | exact spec_l01Matrix.mono _ _
   | exact LeO.none _
   | refine LeO.ite ?_ ?_
   | refine LeO.bind ?_ (fun _ => ?_)
theorem spec_l01Is.mono : ∀ a0 a1 k, LeO (spec_l01Is.f k a0 a1) (spec_l01Is.f (k + 1) a0 a1) := by
 intro a0 a1 k
 obtain ⟨ih0, ih1⟩ := spec_l01Is.mono_l k
 unfold spec_l01Is.f
 repeat' first
   | (with_reducible exact ih0 _ _ _)
   | (with_reducible exact ih1 _ _ _)
   | (with_reducible exact spec_l01Matrix.mono _ _)
   | (with_reducible exact LeO.refl _)
   | (with_reducible exact LeO.none _)
   | (with_reducible refine LeO.ite ?_ ?_)
   | (with_reducible refine LeO.bind ?_ (fun _ => ?_))
   | exact ih0 _ _ _
   | exact ih1 _ _ _
   | exact spec_l01Matrix.mono _ _
   | exact LeO.none _
   | refine LeO.ite ?_ ?_
   | refine LeO.bind ?_ (fun _ => ?_)
theorem spec_l01Is.calls (k : Nat) (A0_0 : Option Addr) (c0_0 : Nat) (l0_0 : List (List Int)) (A0_1 : Option Addr) (c0_1 : Nat) (l0_1 : List Int) (r : Bool) (w : World) (hr0_0 : Kd.C (Kd.slice 2 (Kd.int .i64)) w A0_0 l0_0.length l0_0) (hc0_0 : l0_0.length ≤ c0_0) (hr0_1 : Kd.C (Kd.int .i64) w A0_1 l0_1.length l0_1) (hc0_1 : l0_1.length ≤ c0_1) (h : spec_l01Is.f k l0_0 l0_1 = some r) :
  Calls Try.prog 66 #[.agg #[.slice A0_0 l0_0.length c0_0, .slice A0_1 l0_1.length c0_1]] w fun e w' => e = .returned (.bool r) ∧ Below w.heap.size w w' := by
 have hu29 := Try.underlying29
 have HR0_0 := Aside0.mk hr0_0
 have HC0_0 := Aside0.mk hc0_0
 clear hr0_0 hc0_0
 have HR0_1 := Aside0.mk hr0_1
 have HC0_1 := Aside0.mk hc0_1
 clear hr0_1 hc0_1
 have HB := Aside0.mk (Below.refl w.heap.size w)
 have H : ((spec_l01Matrix.f k l0_0).bind fun t168 => (if t168 = true then (spec_l01Is.j0 k ((l0_1.length : Int) != (l0_0.length : Int)) l0_0 l0_1) else (spec_l01Is.j0 k true l0_0 l0_1))) = some r := h
 clear h
 have HC2 := Aside0.mk H
 clear H
 go_enter Try.func66, Try.ntmps66
 go_upto_region 1 with (first | ((with_reducible refine gate_dst (N := 1) rfl ?_); (try (refine gate_guard (by rfl) ?_; dsimp only)); refine box_event ?hg (N := 1) ?hd (cs := #[.slice A0_0 l0_0.length c0_0, .slice A0_1 l0_1.length c0_1]) (t := 29) ?hr ?_; (case hd => rfl); (case hg => rfl); (case hr => first | (go_simp; done) | (go_simp; rfl)); intro gb167 hg w3 hbox hb; have n0_ := Aside0.mk (bs_ hb); have n1_ := Aside0.mk (hbox); have n2_ := Aside0.mk ((by rw [hg]; exact bz_ : w.heap.size ≤ gb167)); have n3_ := Aside0.mk ((by rw [hg]; exact bz_ : w.heap.size ≤ gb167)); clear HB; have HB := n0_; have BK167 := n1_; have GW167 := n2_; have GE167 := n3_; clear n0_ n1_ n2_ n3_; clear hb hbox hg))
 (try simp only [Act.put, List.setIfInBounds_toArray, List.set_cons_zero, List.set_cons_succ])
 go_cut [16] (fun v16 wc => ∃ (kq : Nat) (x16_1 : Bool), v16 = .bool x16_1 ∧ Aside0 (spec_l01Is.j0 kq x16_1 l0_0 l0_1 = some r) ∧ Aside0 (kq ≤ k) ∧ Aside0 (wc.heap[gb167]? = some (.cells #[(.slice A0_0 l0_0.length c0_0), (.slice A0_1 l0_1.length c0_1)] 29 (0, 0))) ∧ Aside0 (Below w.heap.size w wc))
 case first =>
  have H := HC2.out
  clear HC2
  replace H := Option.bind_eq_some_iff.mp H
  obtain ⟨t168, A40, H⟩ := H
  replace H : (if t168 = true then (spec_l01Is.j0 k ((l0_1.length : Int) != (l0_0.length : Int)) l0_0 l0_1) else (spec_l01Is.j0 k true l0_0 l0_1)) = some r := H
  have A4 := Aside0.mk A40
  clear A40
  by_cases c5 : t168 = true
  ·subst c5
   have H1 : (spec_l01Is.j0 k ((l0_1.length : Int) != (l0_0.length : Int)) l0_0 l0_1) = some r := by rw [if_pos rfl] at H; exact H
   clear H
   have H := H1
   clear H1
   have H' := Aside0.mk H
   clear H
   have hcz6_0 : w3.cell? ⟨gb167, 0, none⟩ = some (.slice A0_0 l0_0.length c0_0) := (blk_cell BK167.out 0).trans rfl
   have hcz6_1 : w3.cell? ⟨gb167, 1, none⟩ = some (.slice A0_1 l0_1.length c0_1) := (blk_cell BK167.out 1).trans rfl
   have hfz6_0 := blk_frozen BK167.out 0
   have hfz6_1 := blk_frozen BK167.out 1
   go_wp2_with (first | ((with_reducible refine gate_callee (f := 102) rfl ?_); refine gL_ 6 Try.func102 #[.slice A0_0 l0_0.length c0_0] ?_; (with_reducible refine (spec_l01Matrix.calls k _ _ l0_0 true _ ?side1 ?side2 A4.out).mono ?_); (case side1 => exact cb_ HR0_0.out HB.out); (case side2 => exact HC0_0.out); rintro e w' ⟨rfl, ⟨nd, rfl⟩⟩; refine ⟨_, rfl, ?_⟩))
   go_meet
   case rel => exact ⟨_, (((l0_1.length : Int) != (l0_0.length : Int))), rs_, H', ⟨by first | omega | exact Nat.le_refl _⟩, ⟨bk_⟩, ⟨hb_⟩⟩
  ·replace c5 := Bool.eq_false_iff.mpr c5
   subst c5
   have H1 : (spec_l01Is.j0 k true l0_0 l0_1) = some r := by rw [if_neg (show ¬ (false = true) by decide)] at H; exact H
   clear H
   have H := H1
   clear H1
   have H' := Aside0.mk H
   clear H
   have hcz7_0 : w3.cell? ⟨gb167, 0, none⟩ = some (.slice A0_0 l0_0.length c0_0) := (blk_cell BK167.out 0).trans rfl
   have hcz7_1 : w3.cell? ⟨gb167, 1, none⟩ = some (.slice A0_1 l0_1.length c0_1) := (blk_cell BK167.out 1).trans rfl
   have hfz7_0 := blk_frozen BK167.out 0
   have hfz7_1 := blk_frozen BK167.out 1
   go_wp2_with (first | ((with_reducible refine gate_callee (f := 102) rfl ?_); refine gL_ 6 Try.func102 #[.slice A0_0 l0_0.length c0_0] ?_; (with_reducible refine (spec_l01Matrix.calls k _ _ l0_0 false _ ?side1 ?side2 A4.out).mono ?_); (case side1 => exact cb_ HR0_0.out HB.out); (case side2 => exact HC0_0.out); rintro e w' ⟨rfl, ⟨nd, rfl⟩⟩; refine ⟨_, rfl, ?_⟩))
   go_meet
   case rel => exact ⟨_, (true), rs_, H', ⟨by first | omega | exact Nat.le_refl _⟩, ⟨bk_⟩, ⟨hb_⟩⟩
 case rest =>
  clear HC2
  try clear c1
  try clear p2
  try clear c5
  try clear c6
  try clear hcz6_0
  try clear hcz6_1
  try clear hcz7_0
  try clear hcz7_1
  try clear hfz6_0
  try clear hfz6_1
  try clear hfz7_0
  try clear hfz7_1
  obtain ⟨kq, x16_1, rfl, HA, HJ1, BK167, HB⟩ := hcut
  cases kq with
  | zero => exact absurd HA.out (by simp [spec_l01Is.j0])
  | succ kj1 =>
   have H := HA.out
   clear HA
   simp only [spec_l01Is.j0] at H
   by_cases c8 : x16_1 = true
   ·subst c8
    have H1 : (some false) = some r := by rw [if_pos rfl] at H; exact H
    clear H
    have H := H1
    clear H1
    obtain rfl := Option.some.inj H
    go_wp2
    go_ret
    exact ⟨by first | rfl | (simp [errW_none, errW_some] <;> rfl) | (simp [*, errW_none, errW_some] <;> rfl), hb_⟩
   ·replace c8 := Bool.eq_false_iff.mpr c8
    subst c8
    have H1 : (spec_l01Is.l0 kj1 0 l0_0 l0_1) = some r := by rw [if_neg (show ¬ (false = true) by decide)] at H; exact H
    clear H
    have H := H1
    clear H1
    have H' := Aside0.mk H
    clear H
    go_wp2
    go_loopg [3] kj1 (fun kq v3 w' => ∃ (x3_2 : Int), v3 = .int .i64 x3_2 ∧ Aside0 (spec_l01Is.l0 kq x3_2 l0_0 l0_1 = some r) ∧ Aside0 (kq ≤ kj1) ∧ Aside0 (w'.heap[gb167]? = some (.cells #[(.slice A0_0 l0_0.length c0_0), (.slice A0_1 l0_1.length c0_1)] 29 (0, 0))) ∧ Aside0 (Below w.heap.size w w'))
    case atStart => exact ⟨(0), rs_, H', ⟨Nat.le_refl _⟩, ⟨bk_⟩, ⟨hb_⟩⟩
    case round =>
     clear H'
     try clear c1
     try clear p2
     try clear c5
     try clear c6
     try clear c8
     try clear hcz6_0
     try clear hcz6_1
     try clear hcz7_0
     try clear hcz7_1
     try clear hfz6_0
     try clear hfz6_1
     try clear hfz7_0
     try clear hfz7_1
     try clear p2
     obtain ⟨x3_2, rfl, HA, HK2, BK167, HB⟩ := hrel
     cases gk with
     | zero => exact absurd HA.out (by simp [spec_l01Is.l0])
     | succ k2 =>
      have H := HA.out
      clear HA
      simp only [spec_l01Is.l0] at H
      by_cases c9 : x3_2 < (l0_1.length : Int)
      ·rw [if_pos c9] at H
       have c9b0 : decide (x3_2 < (l0_1.length : Int)) = true := decide_eq_true c9
       clear c9
       by_cases c10 : 0 ≤ x3_2
       ·rw [if_pos c10] at H
        have c10b0 : decide (0 ≤ x3_2) = true := decide_eq_true c10
        clear c10
        replace H := Option.bind_eq_some_iff.mp H
        obtain ⟨t170, A110, H⟩ := H
        replace H : (if t170 = true then (spec_l01Is.l0 k2 (wrap64 (x3_2 + 1)) l0_0 l0_1) else (some false)) = some r := H
        have A11 := Aside0.mk A110
        clear A110
        by_cases c12 : t170 = true
        ·subst c12
         have H1 : (spec_l01Is.l0 k2 (wrap64 (x3_2 + 1)) l0_0 l0_1) = some r := by rw [if_pos rfl] at H; exact H
         clear H
         have H := H1
         clear H1
         have H' := Aside0.mk H
         clear H
         have hcz13_0 : wr.cell? ⟨gb167, 0, none⟩ = some (.slice A0_0 l0_0.length c0_0) := (blk_cell BK167.out 0).trans rfl
         have hcz13_1 : wr.cell? ⟨gb167, 1, none⟩ = some (.slice A0_1 l0_1.length c0_1) := (blk_cell BK167.out 1).trans rfl
         have hfz13_0 := blk_frozen BK167.out 0
         have hfz13_1 := blk_frozen BK167.out 1
         have p169 : 0 ≤ (x3_2 : Int) := od_
         have q169 : x3_2 < (l0_1.length : Int) := od_
         obtain ⟨ad169, e169, hx169_0⟩ := Kd.at_int HR0_1.out x3_2 p169 q169
         cases e169
         replace hx169_0 := (HB.out.cell (World.block_lt_of_cell? w _ hx169_0)).trans hx169_0
         replace p169 := eq_true p169
         replace q169 := eq_true q169
         go_wp2_with (first | ((with_reducible refine gate_callee (f := 91) rfl ?_); refine gL_ 29 Try.func91 #[.int .i64 (rd l0_1 x3_2), .int .i64 (-100), .int .i64 100] ?_; (with_reducible refine (spec_l01In.calls (rd l0_1 x3_2) (-100) 100 true _ A11.out).mono ?_); rintro e w' ⟨rfl, ⟨nd, rfl⟩⟩; refine ⟨_, rfl, ?_⟩))
         go_roundg k2
         case measure => have := HJ1.out; have := HK2.out; omega
         case rel => exact ⟨(wrap64 (x3_2 + 1)), rs_, H', ⟨by have := HJ1.out; have := HK2.out; omega⟩, ⟨bk_⟩, ⟨hb_⟩⟩
        ·replace c12 := Bool.eq_false_iff.mpr c12
         subst c12
         have H1 : (some false) = some r := by rw [if_neg (show ¬ (false = true) by decide)] at H; exact H
         clear H
         have H := H1
         clear H1
         obtain rfl := Option.some.inj H
         have hcz14_0 : wr.cell? ⟨gb167, 0, none⟩ = some (.slice A0_0 l0_0.length c0_0) := (blk_cell BK167.out 0).trans rfl
         have hcz14_1 : wr.cell? ⟨gb167, 1, none⟩ = some (.slice A0_1 l0_1.length c0_1) := (blk_cell BK167.out 1).trans rfl
         have hfz14_0 := blk_frozen BK167.out 0
         have hfz14_1 := blk_frozen BK167.out 1
         have p169 : 0 ≤ (x3_2 : Int) := od_
         have q169 : x3_2 < (l0_1.length : Int) := od_
         obtain ⟨ad169, e169, hx169_0⟩ := Kd.at_int HR0_1.out x3_2 p169 q169
         cases e169
         replace hx169_0 := (HB.out.cell (World.block_lt_of_cell? w _ hx169_0)).trans hx169_0
         replace p169 := eq_true p169
         replace q169 := eq_true q169
         go_wp2_with (first | ((with_reducible refine gate_callee (f := 91) rfl ?_); refine gL_ 29 Try.func91 #[.int .i64 (rd l0_1 x3_2), .int .i64 (-100), .int .i64 100] ?_; (with_reducible refine (spec_l01In.calls (rd l0_1 x3_2) (-100) 100 false _ A11.out).mono ?_); rintro e w' ⟨rfl, ⟨nd, rfl⟩⟩; refine ⟨_, rfl, ?_⟩))
         go_ret
         exact ⟨by first | rfl | (simp [errW_none, errW_some] <;> rfl) | (simp [*, errW_none, errW_some] <;> rfl), hb_⟩
       ·rw [if_neg c10] at H
        exact absurd H (by simp)
      ·rw [if_neg c9] at H
       have c9b0 : decide (x3_2 < (l0_1.length : Int)) = false := decide_eq_false c9
       clear c9
       obtain rfl := Option.some.inj H
       have hcz15_0 : wr.cell? ⟨gb167, 0, none⟩ = some (.slice A0_0 l0_0.length c0_0) := (blk_cell BK167.out 0).trans rfl
       have hcz15_1 : wr.cell? ⟨gb167, 1, none⟩ = some (.slice A0_1 l0_1.length c0_1) := (blk_cell BK167.out 1).trans rfl
       have hfz15_0 := blk_frozen BK167.out 0
       have hfz15_1 := blk_frozen BK167.out 1
       go_wp2
       go_ret
       exact ⟨by first | rfl | (simp [errW_none, errW_some] <;> rfl) | (simp [*, errW_none, errW_some] <;> rfl), hb_⟩
end Go.Proofs.Ythdoilfjcgickaa.Pr
end
section
namespace Go.Proofs.Ythdoilfjcgickaa.Pb
open Go.RowKit Go.Proofs.YthdoilfjcgickaaW.PrintWords Go.Proofs.YthdoilfjcgickaaW.PrintMore Go.Proofs.Ythdoilfjcgickaa.Ma Go.Proofs.Ythdoilfjcgickaa.Pr Go.Proofs.Ythdoilfjcgickaa.Dt Go.Proofs.Ythdoilfjcgickaa.Bz Go.Proofs.Ythdoilfjcgickaa.Cz
theorem sin_eq (x a b : Int) : spec_l01In.f x a b = some (decide (a ≤ x ∧ x ≤ b)) := by
 unfold spec_l01In.f
 by_cases h : x ≥ a
 ·rw [if_pos h]; congr 1; rw [Bool.eq_iff_iff]; simp; omega
 ·rw [if_neg h]; congr 1; rw [Bool.eq_iff_iff]; simp; omega
theorem head_step {P : Nat → Prop} {i d : Nat} (h : i < d) : (∀ j, i ≤ j → j < d → P j) ↔ P i ∧ ∀ j, i + 1 ≤ j → j < d → P j :=
 ⟨fun q => ⟨q i (Nat.le_refl _) h, fun j h1 h2 => q j (by omega) h2⟩, fun q j h1 h2 => by
  by_cases e : j = i
  ·subst e; exact q.1
  ·exact q.2 j (by omega) h2⟩
theorem no_iff {b : Bool} {p : Prop} (h : b = true ↔ p) (hp : ¬ p) : b = false := by
 cases b with
 | false => rfl
 | true => exact absurd (h.1 rfl) hp
def N20 (x : Int) : Prop := -20 ≤ x ∧ x ≤ 20
def N100 (x : Int) : Prop := -100 ≤ x ∧ x ≤ 100
def RowM (M : List (List Int)) (i : Nat) : Prop := (M.getD i []).length = M.length ∧ ∀ j, 0 ≤ j → j < M.length → N20 (en M i j)
structure MatOK (M : List (List Int)) : Prop where
 n1 : 1 ≤ M.length
 n5 : M.length ≤ 5
 rows : ∀ i, 0 ≤ i → i < M.length → RowM M i
structure POK (M : List (List Int)) (q : List Int) : Prop where
 mat : MatOK M
 len : q.length = M.length
 num : ∀ i, 0 ≤ i → i < q.length → N100 (q.getD i 0)
section
variable {M : List (List Int)} (hM : M.length ≤ 5)
include hM
theorem spec_mrows : ∀ m i, i + m = M.length → ∀ t : Bool, (t = true ↔ ∀ u, i ≤ u → u < M.length → RowM M u) → Ev (fun k => spec_l01Matrix.l0 k M (M.length : Int) i) t := by
 intro m
 induction m with
 | zero =>
  intro i hi t ht
  obtain rfl : t = true := ht.2 (fun u h1 h2 => by omega)
  exact evstep (fun k => by rw [spec_l01Matrix.l0]) (evneg (by omega) (evc rfl))
 | succ m ih =>
  intro i hi t ht
  have hs := head_step (P := RowM M) (i := i) (d := M.length) (by omega)
  have ht2 := ht.trans hs
  refine evstep (fun k => by rw [spec_l01Matrix.l0]) (evpos (by omega) (evpos (by omega) (evpos (by omega) ?_)))
  rw [rdL1]
  by_cases c : (M.getD i []).length = M.length
  ·refine evpos (by omega) ?_
   have cols : ∀ p j, j + p = M.length → ∀ t : Bool, (t = true ↔ (∀ v, j ≤ v → v < M.length → N20 (en M i v)) ∧ ∀ u, i + 1 ≤ u → u < M.length → RowM M u) → Ev (fun k => spec_l01Matrix.l1 k M (M.length : Int) i j) t := by
    intro p
    induction p with
    | zero =>
     intro j hj t ht
     refine evstep (fun k => by rw [spec_l01Matrix.l1]) (evneg (by omega) ?_)
     rw [w64 (x := (i : Int) + 1) (by omega) (by omega)]
     exact ih (i + 1) (by omega) t (ht.trans ⟨fun h => h.2, fun h => ⟨fun v h1 h2 => by omega, h⟩⟩)
    | succ p ihp =>
     intro j hj t ht
     have hs2 := head_step (P := fun v => N20 (en M i v)) (i := j) (d := M.length) (by omega)
     refine evstep (fun k => by rw [spec_l01Matrix.l1]) ?_
     rw [rdL1]
     refine evpos (by omega) (evpos (by omega) (evpos (by omega) (evpos (by omega) (evpos (by omega) (evsome (sin_eq _ _ _) ?_)))))
     rw [rd_nat, show (M.getD i []).getD j 0 = en M i j from rfl, w64 (x := (j : Int) + 1) (by omega) (by omega)]
     by_cases d : -20 ≤ en M i j ∧ en M i j ≤ 20
     ·exact evpos (decide_eq_true d) (ihp (j + 1) (by omega) t (ht.trans ⟨fun h => ⟨(hs2.1 h.1).2, h.2⟩, fun h => ⟨hs2.2 ⟨d, h.1⟩, h.2⟩⟩))
     ·rw [no_iff ht (fun h => d ((hs2.1 h.1).1))]
      exact evneg (by simpa using d) (evc rfl)
   exact cols M.length 0 (by omega) t (ht2.trans ⟨fun h => ⟨fun v h1 h2 => h.1.2 v h1 h2, h.2⟩, fun h => ⟨⟨c, fun v h1 h2 => h.1 v h1 h2⟩, h.2⟩⟩)
  ·rw [no_iff ht2 (fun h => c h.1.1)]
   exact evneg (by omega) (evc rfl)
end
theorem spec_mat (M : List (List Int)) (t : Bool) (ht : t = true ↔ MatOK M) : Ev (fun k => spec_l01Matrix.f k M) t := by
 unfold spec_l01Matrix.f
 by_cases c1 : (M.length : Int) < 1
 ·rw [no_iff ht (fun h => by have := h.n1; omega)]
  exact evpos c1 (evstep (fun k => by rw [spec_l01Matrix.j0]) (evpos rfl (evc rfl)))
 ·refine evneg c1 (evstep (fun k => by rw [spec_l01Matrix.j0]) ?_)
  by_cases c2 : (M.length : Int) > 5
  ·rw [no_iff ht (fun h => by have := h.n5; omega)]
   exact evpos (decide_eq_true c2) (evc rfl)
  ·refine evneg (by simpa using c2) ?_
   exact spec_mrows (by omega) M.length 0 (by omega) t (ht.trans ⟨fun h => h.rows, fun h => ⟨by omega, by omega, h⟩⟩)
open Classical in
theorem spec_is (M : List (List Int)) (q : List Int) (hq : q.length ≤ 1048576) (t : Bool) (ht : t = true ↔ POK M q) : Ev (fun k => spec_l01Is.f k M q) t := by
 unfold spec_l01Is.f
 refine evbind (spec_mat M (decide (MatOK M)) (by simp)) ?_
 by_cases m : MatOK M
 ·refine evpos (by simpa using m) (evstep (fun k => by rw [spec_l01Is.j0]) ?_)
  by_cases c : q.length = M.length
  ·refine evneg (by simp [c]) ?_
   have loop : ∀ p i, i + p = q.length → ∀ t : Bool, (t = true ↔ ∀ u, i ≤ u → u < q.length → N100 (q.getD u 0)) → Ev (fun k => spec_l01Is.l0 k i M q) t := by
    intro p
    induction p with
    | zero =>
     intro i hi t ht
     obtain rfl : t = true := ht.2 (fun u h1 h2 => by omega)
     exact evstep (fun k => by rw [spec_l01Is.l0]) (evneg (by omega) (evc rfl))
    | succ p ih =>
     intro i hi t ht
     have hs := head_step (P := fun u => N100 (q.getD u 0)) (i := i) (d := q.length) (by omega)
     refine evstep (fun k => by rw [spec_l01Is.l0]) (evpos (by omega) (evpos (by omega) (evsome (sin_eq _ _ _) ?_)))
     rw [rd_nat, w64 (x := (i : Int) + 1) (by omega) (by omega)]
     by_cases d : -100 ≤ q.getD i 0 ∧ q.getD i 0 ≤ 100
     ·exact evpos (decide_eq_true d) (ih (i + 1) (by omega) t (ht.trans (hs.trans ⟨fun h => h.2, fun h => ⟨d, h⟩⟩)))
     ·rw [no_iff (ht.trans hs) (fun h => d h.1)]
      exact evneg (by simpa using d) (evc rfl)
   exact loop q.length 0 (by omega) t (ht.trans ⟨fun h => h.num, fun h => ⟨m, c, h⟩⟩)
  ·rw [no_iff ht (fun h => c h.len)]
   exact evpos (by simp; omega) (evc rfl)
 ·rw [no_iff ht (fun h => m h.mat)]
  exact evneg (by simpa using m) (evstep (fun k => by rw [spec_l01Is.j0]) (evpos rfl (evc rfl)))
theorem any_false {α : Type} (p : α → Bool) (l : List α) : l.any p = false ↔ ∀ i (h : i < l.length), p l[i] = false := by
 rw [List.any_eq_false]
 constructor
 ·intro h i hi
  have := h l[i] (List.getElem_mem hi)
  simpa using this
 ·intro h x hx
  obtain ⟨i, hi, rfl⟩ := List.getElem_of_mem hx
  simp [h i hi]
theorem badU_iff (a n : Int) : badU a n = false ↔ -a ≤ n ∧ n ≤ a := by unfold badU; simp
theorem any_badU (a : Int) (l : List Int) : l.any (badU a) = false ↔ ∀ i, 0 ≤ i → i < l.length → -a ≤ l.getD i 0 ∧ l.getD i 0 ≤ a := by
 rw [any_false]
 constructor
 ·intro h i _ hi
  have := (badU_iff a _).1 (h i hi)
  simpa [hi] using this
 ·intro h i hi
  have := h i (Nat.zero_le _) hi
  exact (badU_iff a _).2 (by simpa [hi] using this)
theorem gD {M : List (List Int)} {i : Nat} (h : i < M.length) : M.getD i [] = M[i] := by simp [h]
open Classical in
theorem impl_mat (M : List (List Int)) : impl_IsMatrix.f M = some (decide (MatOK M)) := by
 unfold impl_IsMatrix.f
 congr 1
 rw [Bool.eq_iff_iff]
 simp only [Bool.and_eq_true, decide_eq_true_eq, Bool.not_eq_true']
 rw [any_false, any_false]
 constructor
 ·rintro ⟨⟨h1, h2⟩, h3⟩
  refine ⟨by omega, by omega, fun i _ hi => ?_⟩
  have r1 := h2 i hi
  have r2 := h3 i hi
  unfold badL at r1
  unfold badM at r2
  have e : M[i].length = M.length := by simp at r1; omega
  refine ⟨by rw [gD hi]; exact e, fun j _ hj => ?_⟩
  have := (any_badU 20 M[i]).1 r2 j (Nat.zero_le _) (by omega)
  rw [← gD hi] at this
  exact this
 ·intro h
  refine ⟨⟨⟨by have := h.n1; omega, by have := h.n5; omega⟩, fun i hi => ?_⟩, fun i hi => ?_⟩
  ·have := (h.rows i (Nat.zero_le _) hi).1
   rw [gD hi] at this
   unfold badL; simp [this]
  ·have := h.rows i (Nat.zero_le _) hi
   unfold badM
   refine (any_badU 20 M[i]).2 (fun j h0 hj => ?_)
   have e := this.1
   rw [gD hi] at e
   have := this.2 j h0 (by omega)
   unfold N20 en at this
   rwa [gD hi] at this
open Classical in
theorem impl_is (M : List (List Int)) (q : List Int) (t : Bool) (ht : t = true ↔ POK M q) : impl_IsProblem.f M q = some t := by
 unfold impl_IsProblem.f
 rw [impl_mat, Option.bind_some]
 by_cases m : MatOK M
 ·rw [if_pos (by simpa using m)]
  by_cases c : q.length = M.length
  ·rw [if_pos (by omega)]
   unfold impl_allUpTo.f
   rw [if_pos (by decide), Option.bind_some]
   congr 1
   rw [Bool.eq_iff_iff, ht, Bool.not_eq_true', any_badU]
   exact ⟨fun h => ⟨m, c, h⟩, fun h => h.num⟩
  ·rw [if_neg (by omega), no_iff ht (fun h => c h.len)]
 ·rw [if_neg (by simpa using m), no_iff ht (fun h => m h.mat)]
end Go.Proofs.Ythdoilfjcgickaa.Pb
end
section
namespace Go.Proofs.Ythdoilfjcgickaa.Pr
open Go.RowKit Go.Proofs.YthdoilfjcgickaaW.PrintWords Go.Proofs.YthdoilfjcgickaaW.PrintLast Go.Proofs.YthdoilfjcgickaaW.PrintMore Go.Proofs.Ythdoilfjcgickaa.Ma Go.Proofs.Ythdoilfjcgickaa.Dt Go.Proofs.Ythdoilfjcgickaa.Lk Go.Proofs.Ythdoilfjcgickaa.Lt Go.Proofs.Ythdoilfjcgickaa.Lq
def badV (n : Int) : Bool := !(decide (1 ≤ n) && decide (n ≤ 20))
theorem within_f (n : Int) : impl_within.f n 1 20 = some (!(badV n)) := by
 unfold impl_within.f badV
 rw [Bool.not_not]
 by_cases h : 1 ≤ n
 ·rw [if_pos (by omega)]; simp [h]
 ·rw [if_neg (by omega)]; simp [h]
theorem isCover1 (n : Int) (w : World) : Calls Try.prog 150 (#[.int .i64 n] ++ #[]) w fun e w' => e = .returned (.bool (badV n)) ∧ Below w.heap.size w w' := by
 have HF := Aside0.mk (within_f n)
 show Calls Try.prog 150 #[.int .i64 n] w _
 generalize badV n = b at HF ⊢
 go_enter Try.func150, Try.ntmps150
 go_wp2_with fail
 refine (impl_within.calls n 1 20 _ _ HF.out).mono ?_
 rintro e w' ⟨rfl, ⟨nd, rfl⟩⟩
 go_wp2
 go_ret
 refine ⟨by simp, pw_below_drewN (Below.refl _ _) _⟩
theorem isCover1_enters : ∀ args w, (callFunc 150 args).run Try.prog w = .ok (.enter 150 args) w := enters_fn Try.func150 (by kernel_rfl) rfl
def cvB (n : Int) (cv : List Int) : Bool := decide ((cv.length : Int) = n) && !(cv.any badV)
theorem isCover_calls (A : Option Addr) (c : Nat) (cv : List Int) (n : Int) (w : World) (hC : Kd.C (Kd.int .i64) w A cv.length cv) :
  Calls Try.prog 121 #[.slice A cv.length c, .int .i64 n] w fun e w' => e = .returned (.bool (cvB n cv)) ∧ Below w.heap.size w w' := by
 have HC := Aside0.mk hC
 have hcall := fun W (hW : Below w.heap.size w W) =>
  containsFuncInts badV 150 #[] isCover1_enters A c cv W (Kd.C_below HC.out hW) (fun W' x _ hb => isCover1 x W')
 have HL := Aside0.mk hcall
 clear hcall hC
 unfold cvB
 obtain ⟨b, hb⟩ : ∃ b, cv.any badV = b := ⟨_, rfl⟩
 rw [hb] at HL ⊢
 clear hb HC
 by_cases hl : (cv.length : Int) = n
 ·subst hl
  simp only [decide_true, Bool.true_and]
  generalize cv.length = l at *
  go_enter Try.func121, Try.ntmps121
  go_wp2_with fail
  refine (HL.out _ (Below.refl _ _)).mono ?_
  rintro e w' ⟨rfl, hb'⟩
  go_wp2
  go_ret
  exact ⟨rfl, hb'⟩
 ·have hl2 : decide ((cv.length : Int) = n) = false := decide_eq_false hl
  have hl3 : ((cv.length : Int) == n) = false := by simpa using hl
  rw [hl2]
  simp only [Bool.false_and]
  clear HL hl2
  generalize cv.length = l at *
  go_enter Try.func121, Try.ntmps121
  go_wp2
  go_ret
  exact ⟨rfl, Below.refl _ _⟩
def lkCode (M : List (List Int)) (Q cv : List Int) : Int := if impl_IsProblem.f M Q = some true then (if cvB (Q.length : Int) cv = true then 0 else 2) else 1
def lkR (M : List (List Int)) (Q cv : List Int) (most : Nat) : TS × List (List Int) × Bool × Int × Int := runI Q.length (enL M) (fun i => cv.getD i 0) (fun i => Q.getD i 0) most
theorem isP_ok {M : List (List Int)} {Q : List Int} (h : impl_IsProblem.f M Q = some true) : Pb.POK M Q := by
 classical
 have := Pb.impl_is M Q (decide (Pb.POK M Q)) (by simp)
 rw [h] at this
 injection this with this
 exact of_decide_eq_true this.symm
structure PC (M : List (List Int)) (Q cv : List Int) (n : Nat) : Prop where
 lM : M.length = n
 lQ : Q.length = n
 rows : ∀ x ∈ M, x.length = n
 pos : 0 < n
 le : n ≤ 5
 lcv : cv.length = n
 Mb : ∀ i k, i < n → k < n → ((enL M) i k).natAbs ≤ 20
 cb : ∀ i, i < n → 0 < cv.getD i 0 ∧ cv.getD i 0 ≤ 20
 qb : ∀ i, i < n → (Q.getD i 0).natAbs ≤ 100
theorem pc_of {M : List (List Int)} {Q cv : List Int} (h : Pb.POK M Q) (hc : cvB (Q.length : Int) cv = true) : PC M Q cv Q.length := by
 unfold cvB at hc
 rw [Bool.and_eq_true] at hc
 obtain ⟨h1, h2⟩ := hc
 have hl : (cv.length : Int) = (Q.length : Int) := of_decide_eq_true h1
 have ha : cv.any badV = false := by simpa using h2
 have hml : M.length = Q.length := h.len.symm
 refine ⟨hml, rfl, fun x hx => ?_, by have := h.mat.n1; omega, by have := h.mat.n5; omega, by omega, fun i k hi hk => ?_, fun i hi => ?_, fun i hi => ?_⟩
 ·obtain ⟨i, hi, rfl⟩ := List.mem_iff_getElem.1 hx
  have := (h.mat.rows i (Nat.zero_le _) hi).1
  rw [List.getD_eq_getElem?_getD, List.getElem?_eq_getElem hi, Option.getD_some] at this
  omega
 ·have := (h.mat.rows i (Nat.zero_le _) (by omega)).2 k (Nat.zero_le _) (by omega)
  unfold Pb.N20 at this
  show (((M.getD i []).getD k 0)).natAbs ≤ 20
  change -20 ≤ ((M.getD i []).getD k 0) ∧ ((M.getD i []).getD k 0) ≤ 20 at this
  omega
 ·have hi' : i < cv.length := by omega
  have := (Pb.any_false badV cv).1 ha i hi'
  unfold badV at this
  rw [List.getD_eq_getElem?_getD, List.getElem?_eq_getElem hi', Option.getD_some]
  simp at this
  omega
 ·have := h.num i (Nat.zero_le _) hi
  unfold Pb.N100 at this
  omega
theorem lkCode_pc {M : List (List Int)} {Q cv : List Int} (h : lkCode M Q cv = 0) : PC M Q cv Q.length := by
 unfold lkCode at h
 by_cases h1 : impl_IsProblem.f M Q = some true
 ·rw [if_pos h1] at h
  by_cases h2 : cvB (Q.length : Int) cv = true
  ·exact pc_of (isP_ok h1) h2
  ·rw [if_neg h2] at h; cases h
 ·rw [if_neg h1] at h; cases h
theorem runOf_calls (A0 : Option Addr) (c0 : Nat) (M : List (List Int)) (A1 : Option Addr) (c1 : Nat) (Q : List Int) (A2 : Option Addr) (c2 : Nat) (cv : List Int) (w : World)
  (hC0 : Kd.C (Kd.slice 2 (Kd.int .i64)) w A0 M.length M) (hc0 : M.length ≤ c0) (hC1 : Kd.C (Kd.int .i64) w A1 Q.length Q) (hc1 : Q.length ≤ c1) (hC2 : Kd.C (Kd.int .i64) w A2 cv.length cv) (hc2 : cv.length ≤ c2) :
  Calls Try.prog 87 #[.agg #[.slice A0 M.length c0, .slice A1 Q.length c1], .slice A2 cv.length c2] w fun e w' =>
   ((lkCode M Q cv ≠ 0 ∧ e = .returned (.tuple #[.pointer none, .int .i64 (lkCode M Q cv)])) ∨ (lkCode M Q cv = 0 ∧ ∃ p, e = .returned (.tuple #[.pointer (some ⟨p, 0, none⟩), .int .i64 (lkR M Q cv 201).2.2.2.2]) ∧ PlE w w' p Q.length (2 * Q.length + 2) (lkR M Q cv 201).1 (lkR M Q cv 201).2.1 (lkR M Q cv 201).2.2.1 (lkR M Q cv 201).2.2.2.1 (lkR M Q cv 201).2.2.2.2)) ∧ Below w.heap.size w w' := by
 have HB := Aside0.mk (Below.refl w.heap.size w)
 have HC0 := Aside0.mk hC0
 have HC1 := Aside0.mk hC1
 have HC2 := Aside0.mk hC2
 have H0 := Aside0.mk hc0
 have H1 := Aside0.mk hc1
 have H2 := Aside0.mk hc2
 obtain ⟨b, hb⟩ : ∃ b, impl_IsProblem.f M Q = some b := by
  classical
  exact ⟨_, Pb.impl_is M Q (decide (Pb.POK M Q)) (by simp)⟩
 have HP := Aside0.mk hb
 have HCD : Aside0 (lkCode M Q cv = if b = true then (if cvB (Q.length : Int) cv = true then 0 else 2) else 1) := ⟨by
  unfold lkCode
  rw [hb]
  cases b <;> simp⟩
 clear hC0 hC1 hC2 hc0 hc1 hc2 hb
 obtain ⟨cd, hcd⟩ : ∃ cd, lkCode M Q cv = cd := ⟨_, rfl⟩
 rw [hcd]
 rw [hcd] at HCD
 have HCD0 := Aside0.mk hcd
 clear hcd
 obtain ⟨R, hR⟩ : ∃ R, lkR M Q cv 201 = R := ⟨_, rfl⟩
 rw [hR]
 have HR := Aside0.mk hR
 clear hR
 go_enter Try.func87, Try.ntmps87
 go_wp2_with (first | ((with_reducible refine gate_dst (N := 2) rfl ?_); refine box_event ?hg (N := 2) ?hd (cs := #[.slice A0 M.length c0, .slice A1 Q.length c1]) (t := 29) ?hr ?_; (case hd => rfl); (case hg => rfl); (case hr => first | (go_simp; done) | (go_simp; rfl)); intro g2 hg w2 hbox hb; replace HB := Aside0.mk (below_step HB.out hb); have B2 := Aside0.mk hbox; have hz0 := cz_ B2 0; have hz1 := cz_ B2 1; clear hb hbox hg))
 refine (impl_IsProblem.calls A0 c0 M A1 c1 Q b w2 (Kd.C_below HC0.out HB.out) H0.out (Kd.C_below HC1.out HB.out) H1.out HP.out).mono ?_
 rintro e w3 ⟨rfl, hb⟩
 replace HB := Aside0.mk (below_step HB.out hb)
 replace B2 := Aside0.mk (blk_below B2.out hb)
 clear hb hz0 hz1
 have hz1 := cz_ B2 1
 cases b with
 | false =>
  have e1 : cd = 1 := by have := HCD.out; simpa using this
  subst e1
  go_wp2
  go_ret2
  exact ⟨.inl ⟨by decide, rfl⟩, HB.out⟩
 | true =>
  go_wp2_with fail
  refine (isCover_calls A2 c2 cv (Q.length : Int) w3 (Kd.C_below HC2.out HB.out)).mono ?_
  obtain ⟨cb, hcb⟩ : ∃ cb, cvB (Q.length : Int) cv = cb := ⟨_, rfl⟩
  rw [hcb]
  rw [hcb] at HCD
  have HCB := Aside0.mk hcb
  clear hcb
  rintro e w4 ⟨rfl, hb⟩
  replace HB := Aside0.mk (below_step HB.out hb)
  replace B2 := Aside0.mk (blk_below B2.out hb)
  clear hb hz1
  have hz0 := cz_ B2 0
  have hz1 := cz_ B2 1
  cases cb with
  | false =>
   have e1 : cd = 2 := by have := HCD.out; simpa using this
   subst e1
   go_wp2
   go_ret2
   exact ⟨.inl ⟨by decide, rfl⟩, HB.out⟩
  | true =>
   have e1 : cd = 0 := by have := HCD.out; simpa using this
   subst e1
   have HPC := Aside0.mk (lkCode_pc HCD0.out)
   obtain ⟨N, hN⟩ : ∃ N : Nat, N = 201 := ⟨_, rfl⟩
   have hrun := run_calls A0 c0 M A1 c1 Q A2 c2 cv N w4 Q.length (Kd.C_below HC0.out HB.out) (Kd.C_below HC1.out HB.out) (Kd.C_below HC2.out HB.out) H0.out H1.out H2.out HPC.out.lM rfl HPC.out.rows HPC.out.pos HPC.out.le HPC.out.lcv HPC.out.Mb HPC.out.cb HPC.out.qb R (by rw [hN, ← HR.out]; unfold lkR; rfl)
   have e201 : (N : Int) = 201 := by omega
   rw [e201] at hrun
   have HRUN := Aside0.mk hrun
   clear hrun e201 hN
   go_wp2_with fail
   refine HRUN.out.mono ?_
   rintro e w5 ⟨p, rfl, hP, hb⟩
   have HPL := Aside0.mk (hP.base HB.out.size)
   replace HB := Aside0.mk (below_step HB.out hb)
   replace B2 := Aside0.mk (blk_below B2.out hb)
   clear hP hb hz0 hz1 HRUN
   obtain ⟨cR, hcR⟩ : ∃ c, R.2.2.2.2 = c := ⟨_, rfl⟩
   rw [hcR] at HPL
   have HCR := Aside0.mk hcR
   clear hcR
   go_wp2
   have HPD := Aside0.mk (HPL.out.mv (below_drew (Below.refl w5.heap.size w5)))
   replace HB := Aside0.mk (below_step HB.out (below_drew (Below.refl w5.heap.size w5)))
   obtain ⟨lo, hi, t, u1, h1, h2, h3, hT, hB, hS⟩ := HPD.out
   have hc4 := cz_ ⟨hB⟩ 4
   clear h1 h2 h3 hT hB hS HPL
   refine st_ (n := 7) (S := fun w' => w'.cell? ⟨p, 4, none⟩ = some (.int .i64 cR)) (ds := []) hc4 (fun hHeld => ?_)
   generalize w5.drew = w6 at HB HPD hHeld ⊢
   clear hc4
   refine pu_ 0 21 ?_; refine pu_ 1 22 ?_; refine pu_ 2 23 ?_; refine pu_ 3 24 ?_; refine tk_ 4 25 ?_; refine pu_ 5 4 ?_; refine pu_ 6 5 ?_
   refine done_ (by kernel_rfl) ?_
   go_wp2
   go_ret2
   exact ⟨⟨p, by rw [HCR.out]; rfl, by rw [HCR.out]; exact HPD.out⟩, HB.out⟩
end Go.Proofs.Ythdoilfjcgickaa.Pr
end
section
namespace Go.Proofs.Ythdoilfjcgickaa.Pr
open Go.RowKit Go.Proofs.YthdoilfjcgickaaW.PrintWords Go.Proofs.YthdoilfjcgickaaW.PrintLast Go.Proofs.YthdoilfjcgickaaW.PrintMore Go.Proofs.Ythdoilfjcgickaa.Ma Go.Proofs.Ythdoilfjcgickaa.Dt Go.Proofs.Ythdoilfjcgickaa.Lk Go.Proofs.Ythdoilfjcgickaa.Lt Go.Proofs.Ythdoilfjcgickaa.Lq
def afC' (R : TS × List (List Int) × Bool × Int × Int) (c k : Int) : Int := if c = 0 then (if R.2.2.2.2 = 0 then (if 0 ≤ k ∧ k ≤ (R.2.1.length : Int) then 0 else 2) else R.2.2.2.2) else c
def afC (M : List (List Int)) (Q cv : List Int) (k : Int) : Int := afC' (lkR M Q cv 201) (lkCode M Q cv) k
theorem afC_lk {M : List (List Int)} {Q cv : List Int} {k : Int} (h : afC M Q cv k = 0) : lkCode M Q cv = 0 ∧ (lkR M Q cv 201).2.2.2.2 = 0 ∧ 0 ≤ k ∧ k ≤ ((lkR M Q cv 201).2.1.length : Int) := by
 unfold afC afC' at h
 by_cases c : lkCode M Q cv = 0
 ·rw [if_pos c] at h
  by_cases d : (lkR M Q cv 201).2.2.2.2 = 0
  ·rw [if_pos d] at h
   by_cases e : 0 ≤ k ∧ k ≤ ((lkR M Q cv 201).2.1.length : Int)
   ·exact ⟨c, d, e.1, e.2⟩
   ·rw [if_neg e] at h; cases h
  ·rw [if_neg d] at h; exact absurd h d
 ·rw [if_neg c] at h; exact absurd h c
theorem within2_f (n a b : Int) : impl_within.f n a b = some (decide (a ≤ n ∧ n ≤ b)) := by
 unfold impl_within.f
 by_cases h : a ≤ n
 ·rw [if_pos (by omega)]; simp [h]
 ·rw [if_neg (by omega)]; simp [h]
theorem after_calls (A0 : Option Addr) (c0 : Nat) (M : List (List Int)) (A1 : Option Addr) (c1 : Nat) (Q : List Int) (A2 : Option Addr) (c2 : Nat) (cv : List Int) (k : Int) (w : World)
  (hC0 : Kd.C (Kd.slice 2 (Kd.int .i64)) w A0 M.length M) (hc0 : M.length ≤ c0) (hC1 : Kd.C (Kd.int .i64) w A1 Q.length Q) (hc1 : Q.length ≤ c1) (hC2 : Kd.C (Kd.int .i64) w A2 cv.length cv) (hc2 : cv.length ≤ c2) :
  Calls Try.prog 90 #[.agg #[.slice A0 M.length c0, .slice A1 Q.length c1], .slice A2 cv.length c2, .int .i64 k] w fun e w' =>
   ((afC M Q cv k ≠ 0 ∧ e = .returned (.tuple #[.pointer none, .int .i64 (afC M Q cv k)])) ∨ (afC M Q cv k = 0 ∧ ∃ lo hi t, e = .returned (.tuple #[.pointer (some ⟨t, 0, none⟩), .int .i64 0]) ∧ w.heap.size ≤ lo ∧ TmE w' lo hi t Q.length (2 * Q.length + 2) (lkR M Q cv k.toNat).1)) ∧ Below w.heap.size w w' := by
 have HB := Aside0.mk (Below.refl w.heap.size w)
 have hcall := fun W (hb : Below w.heap.size w W) => runOf_calls A0 c0 M A1 c1 Q A2 c2 cv W (Kd.C_below hC0 hb) hc0 (Kd.C_below hC1 hb) hc1 (Kd.C_below hC2 hb) hc2
 have HL := Aside0.mk hcall
 have hrun := fun (h : lkCode M Q cv = 0) W (hb : Below w.heap.size w W) (N : Nat) => run_calls A0 c0 M A1 c1 Q A2 c2 cv N W Q.length (Kd.C_below hC0 hb) (Kd.C_below hC1 hb) (Kd.C_below hC2 hb) hc0 hc1 hc2 (lkCode_pc h).lM rfl (lkCode_pc h).rows (lkCode_pc h).pos (lkCode_pc h).le (lkCode_pc h).lcv (lkCode_pc h).Mb (lkCode_pc h).cb (lkCode_pc h).qb (lkR M Q cv N) (by unfold lkR; rfl)
 have HRUN := Aside0.mk hrun
 clear hcall hrun hC0 hc0 hC1 hc1 hC2 hc2
 obtain ⟨a, ha⟩ : ∃ a, afC M Q cv k = a := ⟨_, rfl⟩
 have HA0 : Aside0 (afC' (lkR M Q cv 201) (lkCode M Q cv) k = a) := ⟨ha⟩
 rw [ha]
 clear ha
 obtain ⟨R, hR⟩ : ∃ R, lkR M Q cv 201 = R := ⟨_, rfl⟩
 rw [hR] at HA0 HL
 clear hR
 obtain ⟨c, hc⟩ : ∃ c, lkCode M Q cv = c := ⟨_, rfl⟩
 rw [hc] at HA0 HL HRUN
 clear hc
 generalize M.length = m0 at HL HRUN ⊢
 obtain ⟨n, hn⟩ : ∃ n, Q.length = n := ⟨_, rfl⟩
 rw [hn] at HL HRUN ⊢
 clear hn
 generalize cv.length = m2 at HL HRUN ⊢
 go_enter Try.func90, Try.ntmps90
 go_wp2_with (first | ((with_reducible refine gate_dst (N := 3) rfl ?_); refine box_event ?hg (N := 3) ?hd (cs := #[.slice A0 m0 c0, .slice A1 n c1]) (t := 29) ?hr ?_; (case hd => rfl); (case hg => rfl); (case hr => first | (go_simp; done) | (go_simp; rfl)); intro g3 hg w2 hbox hb; replace HB := Aside0.mk (below_step HB.out hb); have B3 := Aside0.mk hbox; have hz0 := cz_ B3 0; have hz1 := cz_ B3 1; clear hb hbox hg))
 refine (HL.out w2 HB.out).mono ?_
 rintro e w3 ⟨hor, hb⟩
 have HBS := Aside0.mk HB.out.size
 replace HB := Aside0.mk (below_step HB.out hb)
 replace B3 := Aside0.mk (blk_below B3.out hb)
 clear hb hz0 hz1 HL
 rcases hor with ⟨hc, rfl⟩ | ⟨rfl, p, rfl, hP⟩
 ·have hcb : (c == 0) = false := by simpa using hc
  have e1 : c = a := by have h := HA0.out; unfold afC' at h; rw [if_neg hc] at h; exact h
  subst e1
  clear HA0 HRUN
  go_wp2
  go_ret2
  exact ⟨.inl ⟨hc, rfl⟩, HB.out⟩
 ·obtain ⟨cR, hcR⟩ : ∃ c, R.2.2.2.2 = c := ⟨_, rfl⟩
  rw [hcR] at hP
  have HP := Aside0.mk (hP.base HBS.out)
  have HA1 : Aside0 ((if cR = 0 then (if 0 ≤ k ∧ k ≤ (R.2.1.length : Int) then 0 else 2) else cR) = a) := ⟨by have h := HA0.out; unfold afC' at h; rw [if_pos rfl, hcR] at h; exact h⟩
  clear HA0 hP
  rw [hcR]
  clear hcR
  by_cases hc0 : cR = 0
  ·subst hc0
   have HA2 : Aside0 ((if 0 ≤ k ∧ k ≤ (R.2.1.length : Int) then 0 else 2) = a) := ⟨by have h := HA1.out; rw [if_pos rfl] at h; exact h⟩
   clear HA1
   have hq1 : ∃ A9 c9, w3.cell? ⟨p, 1, none⟩ = some (.slice A9 R.2.1.length c9) := by
    obtain ⟨lo, hi, t, u1, h1, h2, h3, hT, hB, hS⟩ := HP.out
    obtain ⟨A9, c9, rfl⟩ := Kd.S_slice hS
    exact ⟨A9, c9, cz_ ⟨hB⟩ 1⟩
   obtain ⟨A9, c9, hq1⟩ := hq1
   clear HP
   obtain ⟨ls, hls⟩ : ∃ x, R.2.1.length = x := ⟨_, rfl⟩
   rw [hls] at hq1 HA2
   clear hls
   obtain ⟨z, hz⟩ : ∃ z, decide (0 ≤ k ∧ k ≤ (ls : Int)) = z := ⟨_, rfl⟩
   have HW := Aside0.mk ((within2_f k 0 (ls : Int)).trans (by rw [hz]))
   have HZ := Aside0.mk hz
   clear hz
   go_wp2_with fail
   refine (impl_within.calls k 0 (ls : Int) z _ HW.out).mono ?_
   rintro e w4 ⟨rfl, ⟨nd, rfl⟩⟩
   replace HB := Aside0.mk (below_step HB.out (pw_below_drewN (Below.refl w3.heap.size w3) nd))
   replace B3 := Aside0.mk (blk_below B3.out (pw_below_drewN (Below.refl w3.heap.size w3) nd))
   clear hq1 HW
   generalize w3.drewN nd = w4 at HB B3 ⊢
   cases z with
   | false =>
    have e1 : a = 2 := by have h := HA2.out; rw [if_neg (of_decide_eq_false HZ.out)] at h; exact h.symm
    subst e1
    clear HA2 HRUN
    go_wp2
    go_ret2
    exact ⟨.inl ⟨by decide, rfl⟩, HB.out⟩
   | true =>
    have hk := of_decide_eq_true HZ.out
    have e1 : a = 0 := by have h := HA2.out; rw [if_pos hk] at h; exact h.symm
    subst e1
    obtain ⟨N, rfl⟩ := Int.eq_ofNat_of_zero_le hk.1
    have HR2 := Aside0.mk (HRUN.out (by first | exact rfl | trivial) w4 HB.out N)
    clear HRUN HA2 hk HZ
    have hz0 := cz_ B3 0
    have hz1 := cz_ B3 1
    obtain ⟨R2, hR2⟩ : ∃ x, lkR M Q cv N = x := ⟨_, rfl⟩
    rw [hR2] at HR2
    have HE := Aside0.mk hR2
    clear hR2
    go_wp2_with fail
    refine HR2.out.mono ?_
    rintro e w5 ⟨p2, rfl, hP, hb⟩
    have HP2 := Aside0.mk (hP.base HB.out.size)
    replace HB := Aside0.mk (below_step HB.out hb)
    clear hP hb hz0 hz1 HR2 B3
    obtain ⟨lo, hi, t, u1, h1, h2, h3, hT, hB, hS⟩ := HP2.out
    have hq0 := cz_ ⟨hB⟩ 0
    have HT := Aside0.mk hT
    have HLO := Aside0.mk h1
    clear h1 h2 h3 hT hB hS HP2
    go_wp2
    go_ret2
    exact ⟨⟨lo, hi, t, rfl, HLO.out, by first | (rw [HE.out]; exact HT.out) | (rw [Int.toNat_natCast, HE.out]; exact HT.out)⟩, HB.out⟩
  ·have hcb : (cR == 0) = false := by simpa using hc0
   have e1 : cR = a := by have h := HA1.out; rw [if_neg hc0] at h; exact h
   subst e1
   clear HA1 HP HRUN
   go_wp2
   go_ret2
   exact ⟨.inl ⟨hc0, rfl⟩, HB.out⟩
end Go.Proofs.Ythdoilfjcgickaa.Pr
end
section
namespace Go.Proofs.Ythdoilfjcgickaa.Pr
open Go.RowKit Go.Proofs.YthdoilfjcgickaaW.PrintWords Go.Proofs.YthdoilfjcgickaaW.PrintLast Go.Proofs.YthdoilfjcgickaaW.PrintMore
attribute [local go_sem] max2_int min2_int max_two min_two max_three min_three max_four min_four
def impl_reduced.f (k : Nat) (a0 : Int) (a1 : Int) : Option (Int × Int × Int) := (impl_common.f k a0 a1).bind fun t1194 => (if a1 < 0 then (if (wrap64 (-t1194)) = 0 then (none) else ((impl_IsFrac.f k (wrap64 (Int.tdiv a0 (wrap64 (-t1194)))) (wrap64 (Int.tdiv a1 (wrap64 (-t1194))))).bind fun t1196 => (if t1196 = true then (some (wrap64 (Int.tdiv a0 (wrap64 (-t1194))), wrap64 (Int.tdiv a1 (wrap64 (-t1194))), 0)) else (some (0, 0, 3))))) else (if t1194 = 0 then (none) else ((impl_IsFrac.f k (wrap64 (Int.tdiv a0 t1194)) (wrap64 (Int.tdiv a1 t1194))).bind fun t1198 => (if t1198 = true then (some (wrap64 (Int.tdiv a0 t1194), wrap64 (Int.tdiv a1 t1194), 0)) else (some (0, 0, 3))))))
theorem impl_reduced.mono : ∀ a0 a1 k, LeO (impl_reduced.f k a0 a1) (impl_reduced.f (k + 1) a0 a1) := by
 intro a0 a1 k
 unfold impl_reduced.f
 repeat' first
   | (with_reducible exact impl_IsFrac.mono _ _ _)
   | (with_reducible exact impl_common.mono _ _ _)
   | (with_reducible exact LeO.refl _)
   | (with_reducible exact LeO.none _)
   | (with_reducible refine LeO.ite ?_ ?_)
   | (with_reducible refine LeO.bind ?_ (fun _ => ?_))
   | exact impl_IsFrac.mono _ _ _
   | exact impl_common.mono _ _ _
   | exact LeO.none _
   | refine LeO.ite ?_ ?_
   | refine LeO.bind ?_ (fun _ => ?_)
def impl_reduced.T4 : Bool × List (List Nat × List Nat) := (true, [([], []), ([], []), ([0, 1], [0, 1]), ([], []), ([], []), ([3, 4], [3, 4]), ([2, 5], [2, 5]), ([], []), ([7, 6, 0, 1, 2, 3, 4, 5, 6, 7], [6, 7])])
def impl_reduced.B4 : List Nat := [0, 0, 3, 0, 0, 24, 63, 0, 255]
theorem impl_reduced.tab4 : rtab .any (opsOf Try.f98 4) = impl_reduced.T4 := by kernel_rfl
theorem impl_reduced.bits4 : waitsOk impl_reduced.T4.2 impl_reduced.B4 = true := by kernel_rfl
theorem impl_reduced.calls (k : Nat) (a0 : Int) (a1 : Int) (r1 : Int) (r2 : Int) (r3 : Int) (w : World) (h : impl_reduced.f k a0 a1 = some (r1, r2, r3)) :
  Calls Try.prog 98 #[.int .i64 a0, .int .i64 a1] w fun e w' => e = .returned (.tuple #[.agg #[.int .i64 r1, .int .i64 r2], .int .i64 r3]) ∧ Below w.heap.size w w' := by
 have hu65 := Try.underlying65
 have HB := Aside0.mk (Below.refl w.heap.size w)
 have H : ((impl_common.f k a0 a1).bind fun t1194 => (if a1 < 0 then (if (wrap64 (-t1194)) = 0 then (none) else ((impl_IsFrac.f k (wrap64 (Int.tdiv a0 (wrap64 (-t1194)))) (wrap64 (Int.tdiv a1 (wrap64 (-t1194))))).bind fun t1196 => (if t1196 = true then (some (wrap64 (Int.tdiv a0 (wrap64 (-t1194))), wrap64 (Int.tdiv a1 (wrap64 (-t1194))), 0)) else (some (0, 0, 3))))) else (if t1194 = 0 then (none) else ((impl_IsFrac.f k (wrap64 (Int.tdiv a0 t1194)) (wrap64 (Int.tdiv a1 t1194))).bind fun t1198 => (if t1198 = true then (some (wrap64 (Int.tdiv a0 t1194), wrap64 (Int.tdiv a1 t1194), 0)) else (some (0, 0, 3))))))) = some (r1, r2, r3) := h
 clear h
 replace H := Option.bind_eq_some_iff.mp H
 obtain ⟨t1194, A30, H⟩ := H
 replace H : (if a1 < 0 then (if (wrap64 (-t1194)) = 0 then (none) else ((impl_IsFrac.f k (wrap64 (Int.tdiv a0 (wrap64 (-t1194)))) (wrap64 (Int.tdiv a1 (wrap64 (-t1194))))).bind fun t1196 => (if t1196 = true then (some (wrap64 (Int.tdiv a0 (wrap64 (-t1194))), wrap64 (Int.tdiv a1 (wrap64 (-t1194))), 0)) else (some (0, 0, 3))))) else (if t1194 = 0 then (none) else ((impl_IsFrac.f k (wrap64 (Int.tdiv a0 t1194)) (wrap64 (Int.tdiv a1 t1194))).bind fun t1198 => (if t1198 = true then (some (wrap64 (Int.tdiv a0 t1194), wrap64 (Int.tdiv a1 t1194), 0)) else (some (0, 0, 3)))))) = some (r1, r2, r3) := H
 have A3 := Aside0.mk A30
 clear A30
 by_cases c4 : a1 < 0
 ·rw [if_pos c4] at H
  have c4b0 : decide (a1 < 0) = true := decide_eq_true c4
  clear c4
  by_cases c5 : (wrap64 (-t1194)) = 0
  ·rw [if_pos c5] at H
   exact absurd H (by simp)
  ·rw [if_neg c5] at H
   have c5b0 : ((wrap64 (-t1194)) == 0) = false := beq_eq_false_iff_ne.mpr c5
   have c5b1 : ((wrap64 (-t1194)) != 0) = true := bne_iff_ne.mpr c5
   replace H := Option.bind_eq_some_iff.mp H
   obtain ⟨t1196, A60, H⟩ := H
   replace H : (if t1196 = true then (some (wrap64 (Int.tdiv a0 (wrap64 (-t1194))), wrap64 (Int.tdiv a1 (wrap64 (-t1194))), 0)) else (some (0, 0, 3))) = some (r1, r2, r3) := H
   have A6 := Aside0.mk A60
   clear A60
   by_cases c7 : t1196 = true
   ·subst c7
    have H1 : (some (wrap64 (Int.tdiv a0 (wrap64 (-t1194))), wrap64 (Int.tdiv a1 (wrap64 (-t1194))), 0)) = some (r1, r2, r3) := by rw [if_pos rfl] at H; exact H
    clear H
    have H := H1
    clear H1
    simp only [Option.some.injEq, Prod.mk.injEq] at H
    obtain ⟨rfl, rfl, rfl⟩ := H
    go_enter Try.func98, Try.ntmps98
    try go_wp2_with (first | ((with_reducible refine gate_dst (N := 4) rfl ?_); refine box_event ?hg (N := 4) ?hd (cs := #[.int .i64 0, .int .i64 0]) (t := 65) ?hr ?_; (case hd => rfl); (case hg => rfl); (case hr => first | (go_simp; done) | (go_simp; rfl)); intro gb1193 hg w8 hbox hb; have n0_ := Aside0.mk (bs_ hb); have n1_ := Aside0.mk (hbox); have n2_ := Aside0.mk ((by rw [hg]; exact bz_ : w.heap.size ≤ gb1193)); have n3_ := Aside0.mk ((by rw [hg]; exact bz_ : w.heap.size ≤ gb1193)); clear HB; have HB := n0_; have BK1193 := n1_; have GW1193 := n2_; have GE1193 := n3_; clear n0_ n1_ n2_ n3_; clear hb hbox hg) | ((with_reducible refine gate_callee (f := 132) rfl ?_); refine gL_ 10 Try.func132 #[.int .i64 a0, .int .i64 a1] ?_; (with_reducible refine (impl_common.calls k a0 a1 t1194 _ A3.out).mono ?_); rintro e w9 ⟨rfl, hb⟩; refine ⟨_, rfl, ?_⟩; have n0_ := Aside0.mk (bb_ BK1193.out hb); have n1_ := Aside0.mk (bs_ hb); clear BK1193; clear HB; have BK1193 := n0_; have HB := n1_; clear n0_ n1_; (try clear hb); (try clear hb2); (try clear hk); (try clear hi)))
    have n0_ := Aside0.mk (blk_drew BK1193.out)
    have n1_ := Aside0.mk (below_drew1 HB.out)
    clear BK1193
    clear HB
    have BK1193 := n0_
    have HB := n1_
    clear n0_ n1_
    refine st_ (n := 9) (S := fun w' => True) (ds := []) trivial (fun hHeld => ?_); refine with_tabW impl_reduced.tab4 impl_reduced.bits4 (fun HT_ HW_ => ?_)
    generalize w9.drew = w10 at BK1193 HB hHeld ⊢
    refine pu_ 0 15 ?_; refine pu_ 1 16 ?_; refine pu_ 2 17 ?_; refine pu_ 3 18 ?_; refine pu_ 4 19 ?_; refine pu_ 5 20 ?_; refine pu_ 6 21 ?_
    refine on_ 7 (some 7) (fun K hK => ?_)
    refine box_step ?hg (N := 7) ?hd (cs := #[.int .i64 0, .int .i64 0]) (t := 65) ?hr ?_; (case hd => rfl); (case hg => rfl); (case hr => first | (go_simp; done) | (go_simp; rfl))
    intro gb1195 hg w11 hbox hb
    have n0_ := Aside0.mk (bb_ BK1193.out hb)
    have n1_ := Aside0.mk (bs_ hb)
    have n2_ := Aside0.mk (hbox)
    have n3_ := Aside0.mk ((by rw [hg]; exact bz_ : w.heap.size ≤ gb1195))
    have n4_ := Aside0.mk ((by rw [hg]; exact bz_ : w.heap.size ≤ gb1195))
    have n5_ := Aside0.mk ((by rw [hg]; exact lt_ BK1193.out : gb1193 ≠ gb1195))
    have n6_ := Aside0.mk ((by rw [hg]; exact gt_ BK1193.out : gb1195 ≠ gb1193))
    clear BK1193
    clear HB
    have BK1193 := n0_
    have HB := n1_
    have BK1195 := n2_
    have GW1195 := n3_
    have GE1195 := n4_
    have NB1193_1195 := n5_
    have NB1195_1193 := n6_
    clear n0_ n1_ n2_ n3_ n4_ n5_ n6_
    clear hb hbox hg
    refine hK.out _ _ trivial (fun hHeld => ?_)
    clear hK K
    refine norm_ (a' := ?_) ?_ ?_
    rotate_left
    ·show Act.put _ (some 7) _ = _
     simp only [Act.put, List.setIfInBounds_toArray, List.set_cons_zero, List.set_cons_succ, i64_w, i32_w]
     rfl
    refine on_ 8 none (fun K hK => ?_)
    have hs12 : w11.cell? ⟨gb1195, 0, none⟩ = some (.int .i64 0) := (blk_cell BK1195.out 0).trans rfl
    have hfs12 := blk_frozen BK1195.out 0
    have hns12_0 := NB1193_1195.out
    have hms12_0 := NB1195_1193.out
    have hs13 : w11.cell? ⟨gb1195, 1, none⟩ = some (.int .i64 0) := (blk_cell BK1195.out 1).trans rfl
    have hfs13 := blk_frozen BK1195.out 1
    have hns13_0 := NB1193_1195.out
    have hms13_0 := NB1195_1193.out
    refine skip_ (w1 := ?_) (by rfl) rfl ?_ ?_
    rotate_left
    ·go_simp
     rfl
    refine hK.out _ _ trivial (fun hHeld => ?_)
    clear hK K
    refine done_ (done_of HT_.out (by kernel_rfl)) ?_
    have hnb14 := NB1195_1193.out
    have hnc14 := NB1193_1195.out
    have hcz15_0 : w11.cell? ⟨gb1195, 0, none⟩ = some (.int .i64 0) := (blk_cell BK1195.out 0).trans rfl
    have hcz15_1 : w11.cell? ⟨gb1195, 1, none⟩ = some (.int .i64 0) := (blk_cell BK1195.out 1).trans rfl
    have hfz15_0 := blk_frozen BK1195.out 0
    have hfz15_1 := blk_frozen BK1195.out 1
    try go_wp2_with (first | ((with_reducible refine gate_callee (f := 133) rfl ?_); refine gL_ 23 Try.func133 #[.agg #[.int .i64 (wrap64 (Int.tdiv a0 (wrap64 (-t1194)))), .int .i64 (wrap64 (Int.tdiv a1 (wrap64 (-t1194))))]] ?_; (with_reducible refine (impl_IsFrac.calls k (wrap64 (Int.tdiv a0 (wrap64 (-t1194)))) (wrap64 (Int.tdiv a1 (wrap64 (-t1194)))) true _ A6.out).mono ?_); rintro e w16 ⟨rfl, hb⟩; refine ⟨_, rfl, ?_⟩; have n0_ := Aside0.mk (blk_below (g := gb1193) (o := .cells #[.int .i64 0, .int .i64 0] 65 (0, 0)) (by (with_reducible repeat (first | refine blk_drewN ?_ _ | refine blk_drew ?_ | refine blk_alloc ?_ _)); refine blk_far ?_ NB1193_1195.out _; (with_reducible repeat (first | refine blk_drewN ?_ _ | refine blk_drew ?_ | refine blk_alloc ?_ _)); refine blk_far ?_ NB1193_1195.out _; (with_reducible repeat (first | refine blk_drewN ?_ _ | refine blk_drew ?_ | refine blk_alloc ?_ _)); exact BK1193.out) hb); have n1_ := Aside0.mk (blk_below (g := gb1195) (o := .cells #[.int .i64 (wrap64 (Int.tdiv a0 (wrap64 (-t1194)))), .int .i64 (wrap64 (Int.tdiv a1 (wrap64 (-t1194))))] 65 (0, 0)) (by (with_reducible repeat (first | refine blk_drewN ?_ _ | refine blk_drew ?_ | refine blk_alloc ?_ _)); refine blk_put (cs := #[.int .i64 (wrap64 (Int.tdiv a0 (wrap64 (-t1194)))), .int .i64 0]) ?_ 1 _ rfl; (with_reducible repeat (first | refine blk_drewN ?_ _ | refine blk_drew ?_ | refine blk_alloc ?_ _)); refine blk_put (cs := #[.int .i64 0, .int .i64 0]) ?_ 0 _ rfl; (with_reducible repeat (first | refine blk_drewN ?_ _ | refine blk_drew ?_ | refine blk_alloc ?_ _)); exact BK1195.out) hb); have n2_ := Aside0.mk (bs_ hb); clear BK1193; clear BK1195; clear HB; have BK1193 := n0_; have BK1195 := n1_; have HB := n2_; clear n0_ n1_ n2_; (try clear hb); (try clear hb2); (try clear hk); (try clear hi); have hcz17_0 : w16.cell? ⟨gb1195, 0, none⟩ = some (.int .i64 (wrap64 (Int.tdiv a0 (wrap64 (-t1194))))) := (blk_cell BK1195.out 0).trans rfl; have hcz17_1 : w16.cell? ⟨gb1195, 1, none⟩ = some (.int .i64 (wrap64 (Int.tdiv a1 (wrap64 (-t1194))))) := (blk_cell BK1195.out 1).trans rfl; have hfz17_0 := blk_frozen BK1195.out 0; have hfz17_1 := blk_frozen BK1195.out 1; have hcz18_0 : w16.cell? ⟨gb1193, 0, none⟩ = some (.int .i64 0) := (blk_cell BK1193.out 0).trans rfl; have hcz18_1 : w16.cell? ⟨gb1193, 1, none⟩ = some (.int .i64 0) := (blk_cell BK1193.out 1).trans rfl; have hfz18_0 := blk_frozen BK1193.out 0; have hfz18_1 := blk_frozen BK1193.out 1))
    refine bodyPost_ret (results_ct rfl _ _ gb1193 65 #[.int .i64 (wrap64 (Int.tdiv a0 (wrap64 (-t1194)))), .int .i64 (wrap64 (Int.tdiv a1 (wrap64 (-t1194))))] (0, 0) _ rfl (by (with_reducible repeat (first | refine blk_drewN ?_ _ | refine blk_drew ?_ | refine blk_alloc ?_ _)); refine blk_put (cs := #[.int .i64 (wrap64 (Int.tdiv a0 (wrap64 (-t1194)))), .int .i64 0]) ?_ 1 _ rfl; (with_reducible repeat (first | refine blk_drewN ?_ _ | refine blk_drew ?_ | refine blk_alloc ?_ _)); refine blk_put (cs := #[.int .i64 0, .int .i64 0]) ?_ 0 _ rfl; (with_reducible repeat (first | refine blk_drewN ?_ _ | refine blk_drew ?_ | refine blk_alloc ?_ _)); exact BK1193.out) Try.underlying65 rfl (by kernel_rfl)) rfl ?_
    exact ⟨by first | rfl | (simp [errW_none, errW_some] <;> rfl) | (simp [*, errW_none, errW_some] <;> rfl), hb_⟩
   ·replace c7 := Bool.eq_false_iff.mpr c7
    subst c7
    have H1 : (some (0, 0, 3)) = some (r1, r2, r3) := by rw [if_neg (show ¬ (false = true) by decide)] at H; exact H
    clear H
    have H := H1
    clear H1
    simp only [Option.some.injEq, Prod.mk.injEq] at H
    obtain ⟨rfl, rfl, rfl⟩ := H
    go_enter Try.func98, Try.ntmps98
    try go_wp2_with (first | ((with_reducible refine gate_dst (N := 4) rfl ?_); refine box_event ?hg (N := 4) ?hd (cs := #[.int .i64 0, .int .i64 0]) (t := 65) ?hr ?_; (case hd => rfl); (case hg => rfl); (case hr => first | (go_simp; done) | (go_simp; rfl)); intro gb1193 hg w19 hbox hb; have n0_ := Aside0.mk (bs_ hb); have n1_ := Aside0.mk (hbox); have n2_ := Aside0.mk ((by rw [hg]; exact bz_ : w.heap.size ≤ gb1193)); have n3_ := Aside0.mk ((by rw [hg]; exact bz_ : w.heap.size ≤ gb1193)); clear HB; have HB := n0_; have BK1193 := n1_; have GW1193 := n2_; have GE1193 := n3_; clear n0_ n1_ n2_ n3_; clear hb hbox hg) | ((with_reducible refine gate_callee (f := 132) rfl ?_); refine gL_ 10 Try.func132 #[.int .i64 a0, .int .i64 a1] ?_; (with_reducible refine (impl_common.calls k a0 a1 t1194 _ A3.out).mono ?_); rintro e w20 ⟨rfl, hb⟩; refine ⟨_, rfl, ?_⟩; have n0_ := Aside0.mk (bb_ BK1193.out hb); have n1_ := Aside0.mk (bs_ hb); clear BK1193; clear HB; have BK1193 := n0_; have HB := n1_; clear n0_ n1_; (try clear hb); (try clear hb2); (try clear hk); (try clear hi)))
    have n0_ := Aside0.mk (blk_drew BK1193.out)
    have n1_ := Aside0.mk (below_drew1 HB.out)
    clear BK1193
    clear HB
    have BK1193 := n0_
    have HB := n1_
    clear n0_ n1_
    refine st_ (n := 9) (S := fun w' => True) (ds := []) trivial (fun hHeld => ?_); refine with_tabW impl_reduced.tab4 impl_reduced.bits4 (fun HT_ HW_ => ?_)
    generalize w20.drew = w21 at BK1193 HB hHeld ⊢
    refine pu_ 0 15 ?_; refine pu_ 1 16 ?_; refine pu_ 2 17 ?_; refine pu_ 3 18 ?_; refine pu_ 4 19 ?_; refine pu_ 5 20 ?_; refine pu_ 6 21 ?_
    refine on_ 7 (some 7) (fun K hK => ?_)
    refine box_step ?hg (N := 7) ?hd (cs := #[.int .i64 0, .int .i64 0]) (t := 65) ?hr ?_; (case hd => rfl); (case hg => rfl); (case hr => first | (go_simp; done) | (go_simp; rfl))
    intro gb1195 hg w22 hbox hb
    have n0_ := Aside0.mk (bb_ BK1193.out hb)
    have n1_ := Aside0.mk (bs_ hb)
    have n2_ := Aside0.mk (hbox)
    have n3_ := Aside0.mk ((by rw [hg]; exact bz_ : w.heap.size ≤ gb1195))
    have n4_ := Aside0.mk ((by rw [hg]; exact bz_ : w.heap.size ≤ gb1195))
    have n5_ := Aside0.mk ((by rw [hg]; exact lt_ BK1193.out : gb1193 ≠ gb1195))
    have n6_ := Aside0.mk ((by rw [hg]; exact gt_ BK1193.out : gb1195 ≠ gb1193))
    clear BK1193
    clear HB
    have BK1193 := n0_
    have HB := n1_
    have BK1195 := n2_
    have GW1195 := n3_
    have GE1195 := n4_
    have NB1193_1195 := n5_
    have NB1195_1193 := n6_
    clear n0_ n1_ n2_ n3_ n4_ n5_ n6_
    clear hb hbox hg
    refine hK.out _ _ trivial (fun hHeld => ?_)
    clear hK K
    refine norm_ (a' := ?_) ?_ ?_
    rotate_left
    ·show Act.put _ (some 7) _ = _
     simp only [Act.put, List.setIfInBounds_toArray, List.set_cons_zero, List.set_cons_succ, i64_w, i32_w]
     rfl
    refine on_ 8 none (fun K hK => ?_)
    have hs23 : w22.cell? ⟨gb1195, 0, none⟩ = some (.int .i64 0) := (blk_cell BK1195.out 0).trans rfl
    have hfs23 := blk_frozen BK1195.out 0
    have hns23_0 := NB1193_1195.out
    have hms23_0 := NB1195_1193.out
    have hs24 : w22.cell? ⟨gb1195, 1, none⟩ = some (.int .i64 0) := (blk_cell BK1195.out 1).trans rfl
    have hfs24 := blk_frozen BK1195.out 1
    have hns24_0 := NB1193_1195.out
    have hms24_0 := NB1195_1193.out
    refine skip_ (w1 := ?_) (by rfl) rfl ?_ ?_
    rotate_left
    ·go_simp
     rfl
    refine hK.out _ _ trivial (fun hHeld => ?_)
    clear hK K
    refine done_ (done_of HT_.out (by kernel_rfl)) ?_
    have hnb25 := NB1195_1193.out
    have hnc25 := NB1193_1195.out
    have hcz26_0 : w22.cell? ⟨gb1195, 0, none⟩ = some (.int .i64 0) := (blk_cell BK1195.out 0).trans rfl
    have hcz26_1 : w22.cell? ⟨gb1195, 1, none⟩ = some (.int .i64 0) := (blk_cell BK1195.out 1).trans rfl
    have hfz26_0 := blk_frozen BK1195.out 0
    have hfz26_1 := blk_frozen BK1195.out 1
    try go_wp2_with (first | ((with_reducible refine gate_callee (f := 133) rfl ?_); refine gL_ 23 Try.func133 #[.agg #[.int .i64 (wrap64 (Int.tdiv a0 (wrap64 (-t1194)))), .int .i64 (wrap64 (Int.tdiv a1 (wrap64 (-t1194))))]] ?_; (with_reducible refine (impl_IsFrac.calls k (wrap64 (Int.tdiv a0 (wrap64 (-t1194)))) (wrap64 (Int.tdiv a1 (wrap64 (-t1194)))) false _ A6.out).mono ?_); rintro e w27 ⟨rfl, hb⟩; refine ⟨_, rfl, ?_⟩; have n0_ := Aside0.mk (blk_below (g := gb1193) (o := .cells #[.int .i64 0, .int .i64 0] 65 (0, 0)) (by (with_reducible repeat (first | refine blk_drewN ?_ _ | refine blk_drew ?_ | refine blk_alloc ?_ _)); refine blk_far ?_ NB1193_1195.out _; (with_reducible repeat (first | refine blk_drewN ?_ _ | refine blk_drew ?_ | refine blk_alloc ?_ _)); refine blk_far ?_ NB1193_1195.out _; (with_reducible repeat (first | refine blk_drewN ?_ _ | refine blk_drew ?_ | refine blk_alloc ?_ _)); exact BK1193.out) hb); have n1_ := Aside0.mk (blk_below (g := gb1195) (o := .cells #[.int .i64 (wrap64 (Int.tdiv a0 (wrap64 (-t1194)))), .int .i64 (wrap64 (Int.tdiv a1 (wrap64 (-t1194))))] 65 (0, 0)) (by (with_reducible repeat (first | refine blk_drewN ?_ _ | refine blk_drew ?_ | refine blk_alloc ?_ _)); refine blk_put (cs := #[.int .i64 (wrap64 (Int.tdiv a0 (wrap64 (-t1194)))), .int .i64 0]) ?_ 1 _ rfl; (with_reducible repeat (first | refine blk_drewN ?_ _ | refine blk_drew ?_ | refine blk_alloc ?_ _)); refine blk_put (cs := #[.int .i64 0, .int .i64 0]) ?_ 0 _ rfl; (with_reducible repeat (first | refine blk_drewN ?_ _ | refine blk_drew ?_ | refine blk_alloc ?_ _)); exact BK1195.out) hb); have n2_ := Aside0.mk (bs_ hb); clear BK1193; clear BK1195; clear HB; have BK1193 := n0_; have BK1195 := n1_; have HB := n2_; clear n0_ n1_ n2_; (try clear hb); (try clear hb2); (try clear hk); (try clear hi); have hcz28_0 : w27.cell? ⟨gb1193, 0, none⟩ = some (.int .i64 0) := (blk_cell BK1193.out 0).trans rfl; have hcz28_1 : w27.cell? ⟨gb1193, 1, none⟩ = some (.int .i64 0) := (blk_cell BK1193.out 1).trans rfl; have hfz28_0 := blk_frozen BK1193.out 0; have hfz28_1 := blk_frozen BK1193.out 1))
    refine bodyPost_ret (results_ct rfl _ _ gb1193 65 #[.int .i64 0, .int .i64 0] (0, 0) _ rfl (by (with_reducible repeat (first | refine blk_drewN ?_ _ | refine blk_drew ?_ | refine blk_alloc ?_ _)); refine blk_put (cs := #[.int .i64 0, .int .i64 0]) ?_ 1 _ rfl; (with_reducible repeat (first | refine blk_drewN ?_ _ | refine blk_drew ?_ | refine blk_alloc ?_ _)); refine blk_put (cs := #[.int .i64 0, .int .i64 0]) ?_ 0 _ rfl; (with_reducible repeat (first | refine blk_drewN ?_ _ | refine blk_drew ?_ | refine blk_alloc ?_ _)); exact BK1193.out) Try.underlying65 rfl (by kernel_rfl)) rfl ?_
    exact ⟨by first | rfl | (simp [errW_none, errW_some] <;> rfl) | (simp [*, errW_none, errW_some] <;> rfl), hb_⟩
 ·rw [if_neg c4] at H
  have c4b0 : decide (a1 < 0) = false := decide_eq_false c4
  clear c4
  by_cases c29 : t1194 = 0
  ·rw [if_pos c29] at H
   exact absurd H (by simp)
  ·rw [if_neg c29] at H
   have c29b0 : (t1194 == 0) = false := beq_eq_false_iff_ne.mpr c29
   have c29b1 : (t1194 != 0) = true := bne_iff_ne.mpr c29
   replace H := Option.bind_eq_some_iff.mp H
   obtain ⟨t1198, A300, H⟩ := H
   replace H : (if t1198 = true then (some (wrap64 (Int.tdiv a0 t1194), wrap64 (Int.tdiv a1 t1194), 0)) else (some (0, 0, 3))) = some (r1, r2, r3) := H
   have A30 := Aside0.mk A300
   clear A300
   by_cases c31 : t1198 = true
   ·subst c31
    have H1 : (some (wrap64 (Int.tdiv a0 t1194), wrap64 (Int.tdiv a1 t1194), 0)) = some (r1, r2, r3) := by rw [if_pos rfl] at H; exact H
    clear H
    have H := H1
    clear H1
    simp only [Option.some.injEq, Prod.mk.injEq] at H
    obtain ⟨rfl, rfl, rfl⟩ := H
    go_enter Try.func98, Try.ntmps98
    try go_wp2_with (first | ((with_reducible refine gate_dst (N := 4) rfl ?_); refine box_event ?hg (N := 4) ?hd (cs := #[.int .i64 0, .int .i64 0]) (t := 65) ?hr ?_; (case hd => rfl); (case hg => rfl); (case hr => first | (go_simp; done) | (go_simp; rfl)); intro gb1193 hg w32 hbox hb; have n0_ := Aside0.mk (bs_ hb); have n1_ := Aside0.mk (hbox); have n2_ := Aside0.mk ((by rw [hg]; exact bz_ : w.heap.size ≤ gb1193)); have n3_ := Aside0.mk ((by rw [hg]; exact bz_ : w.heap.size ≤ gb1193)); clear HB; have HB := n0_; have BK1193 := n1_; have GW1193 := n2_; have GE1193 := n3_; clear n0_ n1_ n2_ n3_; clear hb hbox hg) | ((with_reducible refine gate_callee (f := 132) rfl ?_); refine gL_ 10 Try.func132 #[.int .i64 a0, .int .i64 a1] ?_; (with_reducible refine (impl_common.calls k a0 a1 t1194 _ A3.out).mono ?_); rintro e w33 ⟨rfl, hb⟩; refine ⟨_, rfl, ?_⟩; have n0_ := Aside0.mk (bb_ BK1193.out hb); have n1_ := Aside0.mk (bs_ hb); clear BK1193; clear HB; have BK1193 := n0_; have HB := n1_; clear n0_ n1_; (try clear hb); (try clear hb2); (try clear hk); (try clear hi)))
    have n0_ := Aside0.mk (blk_drew BK1193.out)
    have n1_ := Aside0.mk (below_drew1 HB.out)
    clear BK1193
    clear HB
    have BK1193 := n0_
    have HB := n1_
    clear n0_ n1_
    refine st_ (n := 9) (S := fun w' => True) (ds := []) trivial (fun hHeld => ?_); refine with_tabW impl_reduced.tab4 impl_reduced.bits4 (fun HT_ HW_ => ?_)
    generalize w33.drew = w34 at BK1193 HB hHeld ⊢
    refine pu_ 0 15 ?_; refine pu_ 1 16 ?_; refine pu_ 2 17 ?_; refine pu_ 3 18 ?_; refine pu_ 4 19 ?_; refine pu_ 5 20 ?_; refine pu_ 6 21 ?_
    refine on_ 7 (some 7) (fun K hK => ?_)
    refine box_step ?hg (N := 7) ?hd (cs := #[.int .i64 0, .int .i64 0]) (t := 65) ?hr ?_; (case hd => rfl); (case hg => rfl); (case hr => first | (go_simp; done) | (go_simp; rfl))
    intro gb1197 hg w35 hbox hb
    have n0_ := Aside0.mk (bb_ BK1193.out hb)
    have n1_ := Aside0.mk (bs_ hb)
    have n2_ := Aside0.mk (hbox)
    have n3_ := Aside0.mk ((by rw [hg]; exact bz_ : w.heap.size ≤ gb1197))
    have n4_ := Aside0.mk ((by rw [hg]; exact bz_ : w.heap.size ≤ gb1197))
    have n5_ := Aside0.mk ((by rw [hg]; exact lt_ BK1193.out : gb1193 ≠ gb1197))
    have n6_ := Aside0.mk ((by rw [hg]; exact gt_ BK1193.out : gb1197 ≠ gb1193))
    clear BK1193
    clear HB
    have BK1193 := n0_
    have HB := n1_
    have BK1197 := n2_
    have GW1197 := n3_
    have GE1197 := n4_
    have NB1193_1197 := n5_
    have NB1197_1193 := n6_
    clear n0_ n1_ n2_ n3_ n4_ n5_ n6_
    clear hb hbox hg
    refine hK.out _ _ trivial (fun hHeld => ?_)
    clear hK K
    refine norm_ (a' := ?_) ?_ ?_
    rotate_left
    ·show Act.put _ (some 7) _ = _
     simp only [Act.put, List.setIfInBounds_toArray, List.set_cons_zero, List.set_cons_succ, i64_w, i32_w]
     rfl
    refine on_ 8 none (fun K hK => ?_)
    have hs36 : w35.cell? ⟨gb1197, 0, none⟩ = some (.int .i64 0) := (blk_cell BK1197.out 0).trans rfl
    have hfs36 := blk_frozen BK1197.out 0
    have hns36_0 := NB1193_1197.out
    have hms36_0 := NB1197_1193.out
    have hs37 : w35.cell? ⟨gb1197, 1, none⟩ = some (.int .i64 0) := (blk_cell BK1197.out 1).trans rfl
    have hfs37 := blk_frozen BK1197.out 1
    have hns37_0 := NB1193_1197.out
    have hms37_0 := NB1197_1193.out
    refine skip_ (w1 := ?_) (by rfl) rfl ?_ ?_
    rotate_left
    ·go_simp
     rfl
    refine hK.out _ _ trivial (fun hHeld => ?_)
    clear hK K
    refine done_ (done_of HT_.out (by kernel_rfl)) ?_
    have hnb38 := NB1197_1193.out
    have hnc38 := NB1193_1197.out
    have hcz39_0 : w35.cell? ⟨gb1197, 0, none⟩ = some (.int .i64 0) := (blk_cell BK1197.out 0).trans rfl
    have hcz39_1 : w35.cell? ⟨gb1197, 1, none⟩ = some (.int .i64 0) := (blk_cell BK1197.out 1).trans rfl
    have hfz39_0 := blk_frozen BK1197.out 0
    have hfz39_1 := blk_frozen BK1197.out 1
    try go_wp2_with (first | ((with_reducible refine gate_callee (f := 133) rfl ?_); refine gL_ 23 Try.func133 #[.agg #[.int .i64 (wrap64 (Int.tdiv a0 t1194)), .int .i64 (wrap64 (Int.tdiv a1 t1194))]] ?_; (with_reducible refine (impl_IsFrac.calls k (wrap64 (Int.tdiv a0 t1194)) (wrap64 (Int.tdiv a1 t1194)) true _ A30.out).mono ?_); rintro e w40 ⟨rfl, hb⟩; refine ⟨_, rfl, ?_⟩; have n0_ := Aside0.mk (blk_below (g := gb1193) (o := .cells #[.int .i64 0, .int .i64 0] 65 (0, 0)) (by (with_reducible repeat (first | refine blk_drewN ?_ _ | refine blk_drew ?_ | refine blk_alloc ?_ _)); refine blk_far ?_ NB1193_1197.out _; (with_reducible repeat (first | refine blk_drewN ?_ _ | refine blk_drew ?_ | refine blk_alloc ?_ _)); refine blk_far ?_ NB1193_1197.out _; (with_reducible repeat (first | refine blk_drewN ?_ _ | refine blk_drew ?_ | refine blk_alloc ?_ _)); exact BK1193.out) hb); have n1_ := Aside0.mk (blk_below (g := gb1197) (o := .cells #[.int .i64 (wrap64 (Int.tdiv a0 t1194)), .int .i64 (wrap64 (Int.tdiv a1 t1194))] 65 (0, 0)) (by (with_reducible repeat (first | refine blk_drewN ?_ _ | refine blk_drew ?_ | refine blk_alloc ?_ _)); refine blk_put (cs := #[.int .i64 (wrap64 (Int.tdiv a0 t1194)), .int .i64 0]) ?_ 1 _ rfl; (with_reducible repeat (first | refine blk_drewN ?_ _ | refine blk_drew ?_ | refine blk_alloc ?_ _)); refine blk_put (cs := #[.int .i64 0, .int .i64 0]) ?_ 0 _ rfl; (with_reducible repeat (first | refine blk_drewN ?_ _ | refine blk_drew ?_ | refine blk_alloc ?_ _)); exact BK1197.out) hb); have n2_ := Aside0.mk (bs_ hb); clear BK1193; clear BK1197; clear HB; have BK1193 := n0_; have BK1197 := n1_; have HB := n2_; clear n0_ n1_ n2_; (try clear hb); (try clear hb2); (try clear hk); (try clear hi); have hcz41_0 : w40.cell? ⟨gb1197, 0, none⟩ = some (.int .i64 (wrap64 (Int.tdiv a0 t1194))) := (blk_cell BK1197.out 0).trans rfl; have hcz41_1 : w40.cell? ⟨gb1197, 1, none⟩ = some (.int .i64 (wrap64 (Int.tdiv a1 t1194))) := (blk_cell BK1197.out 1).trans rfl; have hfz41_0 := blk_frozen BK1197.out 0; have hfz41_1 := blk_frozen BK1197.out 1; have hcz42_0 : w40.cell? ⟨gb1193, 0, none⟩ = some (.int .i64 0) := (blk_cell BK1193.out 0).trans rfl; have hcz42_1 : w40.cell? ⟨gb1193, 1, none⟩ = some (.int .i64 0) := (blk_cell BK1193.out 1).trans rfl; have hfz42_0 := blk_frozen BK1193.out 0; have hfz42_1 := blk_frozen BK1193.out 1))
    refine bodyPost_ret (results_ct rfl _ _ gb1193 65 #[.int .i64 (wrap64 (Int.tdiv a0 t1194)), .int .i64 (wrap64 (Int.tdiv a1 t1194))] (0, 0) _ rfl (by (with_reducible repeat (first | refine blk_drewN ?_ _ | refine blk_drew ?_ | refine blk_alloc ?_ _)); refine blk_put (cs := #[.int .i64 (wrap64 (Int.tdiv a0 t1194)), .int .i64 0]) ?_ 1 _ rfl; (with_reducible repeat (first | refine blk_drewN ?_ _ | refine blk_drew ?_ | refine blk_alloc ?_ _)); refine blk_put (cs := #[.int .i64 0, .int .i64 0]) ?_ 0 _ rfl; (with_reducible repeat (first | refine blk_drewN ?_ _ | refine blk_drew ?_ | refine blk_alloc ?_ _)); exact BK1193.out) Try.underlying65 rfl (by kernel_rfl)) rfl ?_
    exact ⟨by first | rfl | (simp [errW_none, errW_some] <;> rfl) | (simp [*, errW_none, errW_some] <;> rfl), hb_⟩
   ·replace c31 := Bool.eq_false_iff.mpr c31
    subst c31
    have H1 : (some (0, 0, 3)) = some (r1, r2, r3) := by rw [if_neg (show ¬ (false = true) by decide)] at H; exact H
    clear H
    have H := H1
    clear H1
    simp only [Option.some.injEq, Prod.mk.injEq] at H
    obtain ⟨rfl, rfl, rfl⟩ := H
    go_enter Try.func98, Try.ntmps98
    try go_wp2_with (first | ((with_reducible refine gate_dst (N := 4) rfl ?_); refine box_event ?hg (N := 4) ?hd (cs := #[.int .i64 0, .int .i64 0]) (t := 65) ?hr ?_; (case hd => rfl); (case hg => rfl); (case hr => first | (go_simp; done) | (go_simp; rfl)); intro gb1193 hg w43 hbox hb; have n0_ := Aside0.mk (bs_ hb); have n1_ := Aside0.mk (hbox); have n2_ := Aside0.mk ((by rw [hg]; exact bz_ : w.heap.size ≤ gb1193)); have n3_ := Aside0.mk ((by rw [hg]; exact bz_ : w.heap.size ≤ gb1193)); clear HB; have HB := n0_; have BK1193 := n1_; have GW1193 := n2_; have GE1193 := n3_; clear n0_ n1_ n2_ n3_; clear hb hbox hg) | ((with_reducible refine gate_callee (f := 132) rfl ?_); refine gL_ 10 Try.func132 #[.int .i64 a0, .int .i64 a1] ?_; (with_reducible refine (impl_common.calls k a0 a1 t1194 _ A3.out).mono ?_); rintro e w44 ⟨rfl, hb⟩; refine ⟨_, rfl, ?_⟩; have n0_ := Aside0.mk (bb_ BK1193.out hb); have n1_ := Aside0.mk (bs_ hb); clear BK1193; clear HB; have BK1193 := n0_; have HB := n1_; clear n0_ n1_; (try clear hb); (try clear hb2); (try clear hk); (try clear hi)))
    have n0_ := Aside0.mk (blk_drew BK1193.out)
    have n1_ := Aside0.mk (below_drew1 HB.out)
    clear BK1193
    clear HB
    have BK1193 := n0_
    have HB := n1_
    clear n0_ n1_
    refine st_ (n := 9) (S := fun w' => True) (ds := []) trivial (fun hHeld => ?_); refine with_tabW impl_reduced.tab4 impl_reduced.bits4 (fun HT_ HW_ => ?_)
    generalize w44.drew = w45 at BK1193 HB hHeld ⊢
    refine pu_ 0 15 ?_; refine pu_ 1 16 ?_; refine pu_ 2 17 ?_; refine pu_ 3 18 ?_; refine pu_ 4 19 ?_; refine pu_ 5 20 ?_; refine pu_ 6 21 ?_
    refine on_ 7 (some 7) (fun K hK => ?_)
    refine box_step ?hg (N := 7) ?hd (cs := #[.int .i64 0, .int .i64 0]) (t := 65) ?hr ?_; (case hd => rfl); (case hg => rfl); (case hr => first | (go_simp; done) | (go_simp; rfl))
    intro gb1197 hg w46 hbox hb
    have n0_ := Aside0.mk (bb_ BK1193.out hb)
    have n1_ := Aside0.mk (bs_ hb)
    have n2_ := Aside0.mk (hbox)
    have n3_ := Aside0.mk ((by rw [hg]; exact bz_ : w.heap.size ≤ gb1197))
    have n4_ := Aside0.mk ((by rw [hg]; exact bz_ : w.heap.size ≤ gb1197))
    have n5_ := Aside0.mk ((by rw [hg]; exact lt_ BK1193.out : gb1193 ≠ gb1197))
    have n6_ := Aside0.mk ((by rw [hg]; exact gt_ BK1193.out : gb1197 ≠ gb1193))
    clear BK1193
    clear HB
    have BK1193 := n0_
    have HB := n1_
    have BK1197 := n2_
    have GW1197 := n3_
    have GE1197 := n4_
    have NB1193_1197 := n5_
    have NB1197_1193 := n6_
    clear n0_ n1_ n2_ n3_ n4_ n5_ n6_
    clear hb hbox hg
    refine hK.out _ _ trivial (fun hHeld => ?_)
    clear hK K
    refine norm_ (a' := ?_) ?_ ?_
    rotate_left
    ·show Act.put _ (some 7) _ = _
     simp only [Act.put, List.setIfInBounds_toArray, List.set_cons_zero, List.set_cons_succ, i64_w, i32_w]
     rfl
    refine on_ 8 none (fun K hK => ?_)
    have hs47 : w46.cell? ⟨gb1197, 0, none⟩ = some (.int .i64 0) := (blk_cell BK1197.out 0).trans rfl
    have hfs47 := blk_frozen BK1197.out 0
    have hns47_0 := NB1193_1197.out
    have hms47_0 := NB1197_1193.out
    have hs48 : w46.cell? ⟨gb1197, 1, none⟩ = some (.int .i64 0) := (blk_cell BK1197.out 1).trans rfl
    have hfs48 := blk_frozen BK1197.out 1
    have hns48_0 := NB1193_1197.out
    have hms48_0 := NB1197_1193.out
    refine skip_ (w1 := ?_) (by rfl) rfl ?_ ?_
    rotate_left
    ·go_simp
     rfl
    refine hK.out _ _ trivial (fun hHeld => ?_)
    clear hK K
    refine done_ (done_of HT_.out (by kernel_rfl)) ?_
    have hnb49 := NB1197_1193.out
    have hnc49 := NB1193_1197.out
    have hcz50_0 : w46.cell? ⟨gb1197, 0, none⟩ = some (.int .i64 0) := (blk_cell BK1197.out 0).trans rfl
    have hcz50_1 : w46.cell? ⟨gb1197, 1, none⟩ = some (.int .i64 0) := (blk_cell BK1197.out 1).trans rfl
    have hfz50_0 := blk_frozen BK1197.out 0
    have hfz50_1 := blk_frozen BK1197.out 1
    try go_wp2_with (first | ((with_reducible refine gate_callee (f := 133) rfl ?_); refine gL_ 23 Try.func133 #[.agg #[.int .i64 (wrap64 (Int.tdiv a0 t1194)), .int .i64 (wrap64 (Int.tdiv a1 t1194))]] ?_; (with_reducible refine (impl_IsFrac.calls k (wrap64 (Int.tdiv a0 t1194)) (wrap64 (Int.tdiv a1 t1194)) false _ A30.out).mono ?_); rintro e w51 ⟨rfl, hb⟩; refine ⟨_, rfl, ?_⟩; have n0_ := Aside0.mk (blk_below (g := gb1193) (o := .cells #[.int .i64 0, .int .i64 0] 65 (0, 0)) (by (with_reducible repeat (first | refine blk_drewN ?_ _ | refine blk_drew ?_ | refine blk_alloc ?_ _)); refine blk_far ?_ NB1193_1197.out _; (with_reducible repeat (first | refine blk_drewN ?_ _ | refine blk_drew ?_ | refine blk_alloc ?_ _)); refine blk_far ?_ NB1193_1197.out _; (with_reducible repeat (first | refine blk_drewN ?_ _ | refine blk_drew ?_ | refine blk_alloc ?_ _)); exact BK1193.out) hb); have n1_ := Aside0.mk (blk_below (g := gb1197) (o := .cells #[.int .i64 (wrap64 (Int.tdiv a0 t1194)), .int .i64 (wrap64 (Int.tdiv a1 t1194))] 65 (0, 0)) (by (with_reducible repeat (first | refine blk_drewN ?_ _ | refine blk_drew ?_ | refine blk_alloc ?_ _)); refine blk_put (cs := #[.int .i64 (wrap64 (Int.tdiv a0 t1194)), .int .i64 0]) ?_ 1 _ rfl; (with_reducible repeat (first | refine blk_drewN ?_ _ | refine blk_drew ?_ | refine blk_alloc ?_ _)); refine blk_put (cs := #[.int .i64 0, .int .i64 0]) ?_ 0 _ rfl; (with_reducible repeat (first | refine blk_drewN ?_ _ | refine blk_drew ?_ | refine blk_alloc ?_ _)); exact BK1197.out) hb); have n2_ := Aside0.mk (bs_ hb); clear BK1193; clear BK1197; clear HB; have BK1193 := n0_; have BK1197 := n1_; have HB := n2_; clear n0_ n1_ n2_; (try clear hb); (try clear hb2); (try clear hk); (try clear hi); have hcz52_0 : w51.cell? ⟨gb1193, 0, none⟩ = some (.int .i64 0) := (blk_cell BK1193.out 0).trans rfl; have hcz52_1 : w51.cell? ⟨gb1193, 1, none⟩ = some (.int .i64 0) := (blk_cell BK1193.out 1).trans rfl; have hfz52_0 := blk_frozen BK1193.out 0; have hfz52_1 := blk_frozen BK1193.out 1))
    refine bodyPost_ret (results_ct rfl _ _ gb1193 65 #[.int .i64 0, .int .i64 0] (0, 0) _ rfl (by (with_reducible repeat (first | refine blk_drewN ?_ _ | refine blk_drew ?_ | refine blk_alloc ?_ _)); refine blk_put (cs := #[.int .i64 0, .int .i64 0]) ?_ 1 _ rfl; (with_reducible repeat (first | refine blk_drewN ?_ _ | refine blk_drew ?_ | refine blk_alloc ?_ _)); refine blk_put (cs := #[.int .i64 0, .int .i64 0]) ?_ 0 _ rfl; (with_reducible repeat (first | refine blk_drewN ?_ _ | refine blk_drew ?_ | refine blk_alloc ?_ _)); exact BK1193.out) Try.underlying65 rfl (by kernel_rfl)) rfl ?_
    exact ⟨by first | rfl | (simp [errW_none, errW_some] <;> rfl) | (simp [*, errW_none, errW_some] <;> rfl), hb_⟩
end Go.Proofs.Ythdoilfjcgickaa.Pr
end
section
namespace Go.Proofs.Ythdoilfjcgickaa.Lq
open Go.RowKit Go.Proofs.YthdoilfjcgickaaW.PrintWords Go.Proofs.YthdoilfjcgickaaW.PrintLast Go.Proofs.YthdoilfjcgickaaW.PrintMore Go.Proofs.Ythdoilfjcgickaa.Pr Go.Proofs.Ythdoilfjcgickaa.Ma Go.Proofs.Ythdoilfjcgickaa.Dt Go.Proofs.Ythdoilfjcgickaa.Lk Go.Proofs.Ythdoilfjcgickaa.Lt
theorem Tm.CB {w : World} {lo hi t g gb n m cg cb : Nat} {b cp : Nat → Nat} {s : TS} (h : Tm w lo hi t g gb n m cg cb b cp s) (hn : n ≤ 1099511627776) : Kd.C (Kd.int .i64) w (some ⟨gb, 0, none⟩) s.bs.length s.bs := by
 have hl := h.len
 refine ⟨rfl, by omega, fun _ => ⟨_, rfl, fun c p hp => ?_⟩⟩
 obtain ⟨hc, hp⟩ := List.getElem?_eq_some_iff.1 hp
 have hpe : p = s.bs.getD c 0 := by rw [List.getD_eq_getElem?_getD, List.getElem?_eq_getElem hc, ← hp]; rfl
 subst hpe
 refine ⟨[.int .i64 (s.bs.getD c 0)], rfl, rfl, fun u v hv => ?_⟩
 have hu : u = 0 := by cases u with
  | zero => rfl
  | succ u => simp at hv
 subst hu
 have hv : Value.int .i64 (s.bs.getD c 0) = v := by simpa using hv
 rw [← hv]
 have e : (⟨gb, 0, none⟩ : Addr).add (c * (Kd.int .i64).sz + 0) = ⟨gb, c, none⟩ := by
  show (⟨gb, 0, none⟩ : Addr).add (c * 1 + 0) = _
  rw [Nat.mul_one, Nat.add_zero, add_off]; try rw [Nat.zero_add]
 rw [e]; exact (h.oq c (by omega)).1
end Go.Proofs.Ythdoilfjcgickaa.Lq
namespace Go.Proofs.Ythdoilfjcgickaa.Pr
open Go.RowKit Go.Proofs.YthdoilfjcgickaaW.PrintWords Go.Proofs.YthdoilfjcgickaaW.PrintLast Go.Proofs.YthdoilfjcgickaaW.PrintMore Go.Proofs.Ythdoilfjcgickaa.Ma Go.Proofs.Ythdoilfjcgickaa.Dt Go.Proofs.Ythdoilfjcgickaa.Lk Go.Proofs.Ythdoilfjcgickaa.Lt Go.Proofs.Ythdoilfjcgickaa.Lq
def caF (k : Nat) (s : TS) (n : Nat) (c : Int) : Option (Int × Int × Int) := if c = 0 then ((slices_Index_int_int.f k s.bs (2 * (n : Int))).bind fun i => if i < 0 then some (0, 1, 0) else if i < (n : Int) then impl_reduced.f k (s.T i.toNat (2 * n + 1)) s.den else none) else some (0, 0, c)
def impl_CoverAfter.f (k : Nat) (l0_0 : List (List Int)) (l0_1 l1 : List Int) (a2 : Int) : Option (Int × Int × Int) := caF k (lkR l0_0 l0_1 l1 a2.toNat).1 l0_1.length (afC l0_0 l0_1 l1 a2)
theorem impl_CoverAfter.mono : ∀ a0 a1 a2 a3 k, LeO (impl_CoverAfter.f k a0 a1 a2 a3) (impl_CoverAfter.f (k + 1) a0 a1 a2 a3) := by
 intro a0 a1 a2 a3 k
 unfold impl_CoverAfter.f caF
 exact LeO.ite (LeO.bind (slices_Index_int_int.mono _ _ _) (fun i => LeO.ite (LeO.refl _) (LeO.ite (impl_reduced.mono _ _ _) (LeO.refl _)))) (LeO.refl _)
theorem impl_CoverAfter.calls (k : Nat) (A0_0 : Option Addr) (c0_0 : Nat) (l0_0 : List (List Int)) (A0_1 : Option Addr) (c0_1 : Nat) (l0_1 : List Int) (A1 : Option Addr) (c1 : Nat) (l1 : List Int) (a2 : Int) (r1 : Int) (r2 : Int) (r3 : Int) (w : World) (hr0_0 : Kd.C (Kd.slice 2 (Kd.int .i64)) w A0_0 l0_0.length l0_0) (hc0_0 : l0_0.length ≤ c0_0) (hr0_1 : Kd.C (Kd.int .i64) w A0_1 l0_1.length l0_1) (hc0_1 : l0_1.length ≤ c0_1) (hr1 : Kd.C (Kd.int .i64) w A1 l1.length l1) (hc1 : l1.length ≤ c1) (h : impl_CoverAfter.f k l0_0 l0_1 l1 a2 = some (r1, r2, r3)) :
  Calls Try.prog 51 #[.agg #[.slice A0_0 l0_0.length c0_0, .slice A0_1 l0_1.length c0_1], .slice A1 l1.length c1, .int .i64 a2] w fun e w' => e = .returned (.tuple #[.agg #[.int .i64 r1, .int .i64 r2], .int .i64 r3]) ∧ Below w.heap.size w w' := by
 unfold impl_CoverAfter.f at h
 have HB := Aside0.mk (Below.refl w.heap.size w)
 have hcall := fun W (hb : Below w.heap.size w W) => after_calls A0_0 c0_0 l0_0 A0_1 c0_1 l0_1 A1 c1 l1 a2 W (Kd.C_below hr0_0 hb) hc0_0 (Kd.C_below hr0_1 hb) hc0_1 (Kd.C_below hr1 hb) hc1
 have HL := Aside0.mk hcall
 clear hcall hr0_0 hc0_0 hr0_1 hc0_1 hr1 hc1
 have hle : afC l0_0 l0_1 l1 a2 = 0 → l0_1.length ≤ 5 ∧ 0 < l0_1.length := fun h0 => ⟨(lkCode_pc (afC_lk h0).1).le, (lkCode_pc (afC_lk h0).1).pos⟩
 obtain ⟨s, hs⟩ : ∃ s, (lkR l0_0 l0_1 l1 a2.toNat).1 = s := ⟨_, rfl⟩
 rw [hs] at h HL
 clear hs
 obtain ⟨c, hc⟩ : ∃ c, afC l0_0 l0_1 l1 a2 = c := ⟨_, rfl⟩
 rw [hc] at h HL hle
 clear hc
 have HLE := Aside0.mk hle
 clear hle
 generalize l0_0.length = m0 at HL ⊢
 obtain ⟨n, hn⟩ : ∃ n, l0_1.length = n := ⟨_, rfl⟩
 rw [hn] at HL HLE h ⊢
 clear hn
 have H := Aside0.mk h
 clear h
 generalize l1.length = m2 at HL ⊢
 go_enter Try.func51, Try.ntmps51
 go_wp2_with (first | ((with_reducible refine gate_dst (N := 3) rfl ?_); refine box_event ?hg (N := 3) ?hd (cs := #[.slice A0_0 m0 c0_0, .slice A0_1 n c0_1]) (t := 29) ?hr ?_; (case hd => rfl); (case hg => rfl); (case hr => first | (go_simp; done) | (go_simp; rfl)); intro g3 hg w2 hbox hb; replace HB := Aside0.mk (below_step HB.out hb); have B3 := Aside0.mk hbox; clear hb hbox hg) | ((with_reducible refine gate_dst (N := 6) rfl ?_); refine box_event ?hg (N := 6) ?hd (cs := #[.int .i64 0, .int .i64 0]) (t := 65) ?hr ?_; (case hd => rfl); (case hg => rfl); (case hr => first | (go_simp; done) | (go_simp; rfl)); intro g6 hg w2b hbox hb; have HG6 : Aside0 (w.heap.size ≤ g6) := ⟨by rw [hg]; exact HB.out.size⟩; have HG6b : Aside0 (g6 < w2b.heap.size) := ⟨blk_lt hbox⟩; replace HB := Aside0.mk (below_step HB.out hb); replace B3 := Aside0.mk (blk_below B3.out hb); have B6 := Aside0.mk hbox; have hz0 := cz_ B3 0; have hz1 := cz_ B3 1; clear hb hbox hg))
 refine (HL.out w2b HB.out).mono ?_
 rintro e w3 ⟨hor, hb⟩
 have HBS := Aside0.mk HB.out.size
 replace HB := Aside0.mk (below_step HB.out hb)
 replace B6 := Aside0.mk (blk_below B6.out hb)
 clear hb hz0 hz1 HL B3
 rcases hor with ⟨hc, rfl⟩ | ⟨rfl, lo, hi, t, rfl, hlo, hT⟩
 ·have hcb : (c == 0) = false := by simpa using hc
  have e := H.out
  unfold caF at e
  rw [if_neg hc] at e
  injection e with e
  injection e with e1 e
  injection e with e2 e3
  subst e1 e2 e3
  clear H
  have hq0 := cz_ B6 0
  have hq1 := cz_ B6 1
  have hf0 := blk_frozen B6.out 0
  have hf1 := blk_frozen B6.out 1
  go_wp2
  refine bodyPost_ret (results_ct rfl _ _ g6 65 #[.int .i64 0, .int .i64 0] (0, 0) _ rfl (blk_put (blk_put B6.out 0 (.int .i64 0) rfl) 1 (.int .i64 0) rfl) Try.underlying65 rfl (by kernel_rfl)) rfl ?_
  exact ⟨rfl, (HB.out.setCell HG6.out _).setCell HG6.out _⟩
 ·have e := H.out
  unfold caF at e
  rw [if_pos rfl] at e
  obtain ⟨ix, hix, e⟩ := Option.bind_eq_some_iff.mp e
  have HIX := Aside0.mk hix
  have HE := Aside0.mk e
  clear H e hix
  obtain ⟨g, gb, cg, cb, b, cp, hT⟩ := hT
  have HN := Aside0.mk (HLE.out rfl)
  have HNG : Aside0 (g6 < lo) := ⟨Nat.lt_of_lt_of_le HG6b.out hlo⟩
  have hT' := hT.mv (Out.drew w3 0 0) (.inr (Nat.zero_le _))
  have HT := Aside0.mk hT'
  have hq2 := hT'.h2
  have hq3 := hT'.h3
  have hw2 : wrap64 (2 * (n : Int)) = 2 * (n : Int) := by have := HN.out.1; exact w64 (by omega) (by omega)
  have HW2 := Aside0.mk hw2
  have hl := hT'.len
  have HLN := Aside0.mk hl
  clear hT hT' hlo hl HLE
  go_wp2
  replace HB := Aside0.mk (below_step HB.out (below_drew (Below.refl w3.heap.size w3)))
  replace B6 := Aside0.mk (blk_below B6.out (below_drew (Below.refl w3.heap.size w3)))
  refine st_ (n := 11) (S := fun w' => w'.cell? ⟨t, 2, none⟩ = some (.slice (some ⟨gb, 0, none⟩) n cb) ∧ w'.cell? ⟨t, 3, none⟩ = some (.int .i64 n)) (ds := []) ⟨hq2, hq3⟩ (fun hHeld => ?_)
  generalize w3.drew = w4 at HB HT B6 hHeld ⊢
  clear hq2 hq3
  refine pu_ 0 22 ?_; refine pu_ 1 23 ?_; refine pu_ 2 24 ?_; refine tk_ 3 25 ?_; refine pu_ 4 26 ?_; refine pu_ 5 27 ?_; refine pu_ 6 28 ?_; refine tk_ 7 29 ?_; refine pu_ 8 30 ?_
  refine on_ 9 (some 31) (fun K hK => ?_)
  refine ca_ Try.func97 #[.slice (some ⟨gb, 0, none⟩) n cb, .int .i64 (wrap64 (2 * (n : Int)))] ?_
  have hix := slices_Index_int_int.calls k (some ⟨gb, 0, none⟩) cb s.bs (wrap64 (2 * (n : Int))) ix w4 (HT.out.CB (by have := HN.out.1; omega)) (by rw [HLN.out]; exact HT.out.nc.2) (by rw [HW2.out]; exact HIX.out)
  rw [HLN.out] at hix
  refine hix.mono ?_
  clear hix
  rintro e w5 ⟨rfl, hd⟩
  have hb : Below w4.heap.size w4 w5 := by
   obtain ⟨nd, rfl⟩ := hd
   exact pw_below_drewN (Below.refl _ _) nd
  clear hd
  refine ⟨_, rfl, ?_⟩
  replace HB := Aside0.mk (below_step HB.out hb)
  replace B6 := Aside0.mk (blk_below B6.out hb)
  replace HT := Aside0.mk (HT.out.mvB hb)
  clear hb hHeld
  refine hK.out _ _ ⟨HT.out.h2, HT.out.h3⟩ (fun hHeld => ?_)
  clear hK K
  refine no_ ?_
  refine pu_ 10 10 ?_
  refine done_ (by kernel_rfl) ?_
  clear hHeld hw2
  by_cases hneg : ix < 0
  ·have e := HE.out
   rw [if_pos hneg] at e
   injection e with e
   injection e with e1 e
   injection e with e2 e3
   subst e1 e2 e3
   clear HE HIX
   have hq0 := cz_ B6 0
   have hq1 := cz_ B6 1
   have hf0 := blk_frozen B6.out 0
   have hf1 := blk_frozen B6.out 1
   go_wp2
   refine bodyPost_ret (results_ct rfl _ _ g6 65 #[.int .i64 0, .int .i64 1] (0, 0) _ rfl (blk_put (blk_put B6.out 0 (.int .i64 0) rfl) 1 (.int .i64 1) rfl) Try.underlying65 rfl (by kernel_rfl)) rfl ?_
   exact ⟨rfl, (HB.out.setCell HG6.out _).setCell HG6.out _⟩
  ·have e := HE.out
   rw [if_neg hneg] at e
   by_cases hin : ix < (n : Int)
   ·rw [if_pos hin] at e
    have HRD := Aside0.mk e
    obtain ⟨j, rfl⟩ := Int.eq_ofNat_of_zero_le (show 0 ≤ ix by omega)
    have HJ : Aside0 (j < n) := ⟨by omega⟩
    clear e HE HIX hin
    have hd1 := (HT.out.mv (Out.drew w5 0 0) (.inr (Nat.zero_le _))).h1.1
    have HT2 := Aside0.mk (HT.out.mv (Out.drew w5 0 0) (.inr (Nat.zero_le _)))
    go_wp2
    replace HB := Aside0.mk (below_step HB.out (below_drew (Below.refl w5.heap.size w5)))
    replace B6 := Aside0.mk (blk_below B6.out (below_drew (Below.refl w5.heap.size w5)))
    refine st_ (n := 12) (S := fun w' => w'.cell? ⟨t, 1, none⟩ = some (.int .i64 s.den)) (ds := []) hd1 (fun hHeld => ?_)
    generalize w5.drew = w6 at HB HT2 B6 hHeld ⊢
    clear hd1 HT
    refine pu_ 0 35 ?_; refine pu_ 1 36 ?_; refine pu_ 3 38 ?_; refine pu_ 4 39 ?_; refine pu_ 5 40 ?_; refine tk_ 6 41 ?_
    refine on_ 2 (some 37) (fun K hK => ?_)
    refine ca_ Try.func99 #[.pointer (some ⟨t, 0, none⟩), .int .i64 (j : Int)] ?_
    refine (right_calls HT2.out j HJ.out (by omega) (by have := HN.out.1; omega)).mono ?_
    rintro e w7 ⟨rfl, hb⟩
    refine ⟨_, rfl, ?_⟩
    replace HB := Aside0.mk (below_step HB.out hb)
    replace B6 := Aside0.mk (blk_below B6.out hb)
    replace HT2 := Aside0.mk (HT2.out.mvB hb)
    clear hb hHeld
    refine hK.out _ _ HT2.out.h1.1 (fun hHeld => ?_)
    clear hK K
    refine no_ ?_
    refine on_ 7 (some 42) (fun K hK => ?_)
    refine ca_ Try.func98 #[.int .i64 (s.T j (2 * n + 2 - 1)), .int .i64 s.den] ?_
    refine (impl_reduced.calls k (s.T j (2 * n + 2 - 1)) s.den r1 r2 r3 w7 (by have h := HRD.out; rw [Int.toNat_natCast] at h; rw [show 2 * n + 2 - 1 = 2 * n + 1 from by omega]; exact h)).mono ?_
    rintro e w8 ⟨rfl, hb⟩
    refine ⟨_, rfl, ?_⟩
    replace HB := Aside0.mk (below_step HB.out hb)
    replace B6 := Aside0.mk (blk_below B6.out hb)
    replace HT2 := Aside0.mk (HT2.out.mvB hb)
    clear hb hHeld HRD
    refine hK.out _ _ HT2.out.h1.1 (fun hHeld => ?_)
    clear hK K
    refine no_ ?_
    refine pu_ 8 43 ?_; refine pu_ 9 44 ?_
    have hq0 := cz_ B6 0
    have hq1 := cz_ B6 1
    have hf0 := blk_frozen B6.out 0
    have hf1 := blk_frozen B6.out 1
    refine on_ 10 none (fun K hK => ?_)
    refine skip_ (w1 := ?_) (by rfl) rfl ?_ ?_
    rotate_left
    ·go_simp
     rfl
    have hne : t ≠ g6 := by have h1 := HT2.out.tR; have h2 := HNG.out; omega
    refine hK.out _ _ ((cell_far (p := ⟨g6, 1, none⟩) hne _).trans ((cell_far (p := ⟨g6, 0, none⟩) hne _).trans HT2.out.h1.1)) (fun hHeld => ?_)
    clear hK K hq0 hq1 hf0 hf1
    refine pu_ 11 7 ?_
    refine done_ (by kernel_rfl) ?_
    go_wp2
    refine bodyPost_ret (results_ct rfl _ _ g6 65 #[.int .i64 r1, .int .i64 r2] (0, 0) _ rfl (blk_put (blk_put B6.out 0 (.int .i64 r1) rfl) 1 (.int .i64 r2) rfl) Try.underlying65 rfl (by kernel_rfl)) rfl ?_
    exact ⟨rfl, (HB.out.setCell HG6.out _).setCell HG6.out _⟩
   ·rw [if_neg hin] at e
    cases e
end Go.Proofs.Ythdoilfjcgickaa.Pr
end
section
namespace Go.Proofs.Ythdoilfjcgickaa.Pr
open Go.RowKit Go.Proofs.YthdoilfjcgickaaW.PrintWords Go.Proofs.YthdoilfjcgickaaW.PrintLast Go.Proofs.YthdoilfjcgickaaW.PrintMore
attribute [local go_sem] max2_int min2_int max_two min_two max_three min_three max_four min_four
def laws_heldInt64SS.l0 : Nat → List (List Int) → Int → Int → Option (Int)
 | 0, _, _, _ => none
 | k + 1, x0, x1, x5 => if x5 < (x0.length : Int) then (if 0 ≤ x5 then ((laws_heldInt64S.f k (rd_L1 x0 x5) x1).bind fun t150 => (if t150 < 0 then (some (-1)) else (laws_heldInt64SS.l0 k x0 t150 (wrap64 (x5 + 1))))) else (none)) else (some x1)
def laws_heldInt64SS.f (k : Nat) (l0 : List (List Int)) (a1 : Int) : Option (Int) := laws_heldInt64SS.l0 k l0 a1 0
theorem laws_heldInt64SS.mono_l : ∀ k, (∀ y0 y1 y2, LeO (laws_heldInt64SS.l0 k y0 y1 y2) (laws_heldInt64SS.l0 (k + 1) y0 y1 y2))
 | 0 => fun _ _ _ r h => by simp [laws_heldInt64SS.l0] at h
 | k + 1 => by
  have ih0 := laws_heldInt64SS.mono_l k
  ·intro y0 y1 y2
   unfold laws_heldInt64SS.l0
   repeat' first
   | (with_reducible exact ih0 _ _ _)
   | (with_reducible exact laws_heldInt64S.mono _ _ _)
   | (with_reducible exact LeO.refl _)
   | (with_reducible exact LeO.none _)
   | (with_reducible refine LeO.ite ?_ ?_)
   | (with_reducible refine LeO.bind ?_ (fun _ => ?_))
   | exact ih0 _ _ _
   | exact laws_heldInt64S.mono _ _ _
   | exact LeO.none _
   | refine LeO.ite ?_ ?_
   | refine LeO.bind ?_ (fun _ => ?_)
theorem laws_heldInt64SS.mono : ∀ a0 a1 k, LeO (laws_heldInt64SS.f k a0 a1) (laws_heldInt64SS.f (k + 1) a0 a1) := by
 intro a0 a1 k
 have ih0 := laws_heldInt64SS.mono_l k
 unfold laws_heldInt64SS.f
 repeat' first
   | (with_reducible exact ih0 _ _ _)
   | (with_reducible exact laws_heldInt64S.mono _ _ _)
   | (with_reducible exact LeO.refl _)
   | (with_reducible exact LeO.none _)
   | (with_reducible refine LeO.ite ?_ ?_)
   | (with_reducible refine LeO.bind ?_ (fun _ => ?_))
   | exact ih0 _ _ _
   | exact laws_heldInt64S.mono _ _ _
   | exact LeO.none _
   | refine LeO.ite ?_ ?_
   | refine LeO.bind ?_ (fun _ => ?_)
theorem laws_heldInt64SS.calls (k : Nat) (A0 : Option Addr) (c0 : Nat) (l0 : List (List Int)) (a1 : Int) (r : Int) (w : World) (hr0 : Kd.C (Kd.slice 2 (Kd.int .i64)) w A0 l0.length l0) (hc0 : l0.length ≤ c0) (h : laws_heldInt64SS.f k l0 a1 = some r) :
  Calls Try.prog 23 #[.slice A0 l0.length c0, .int .i64 a1] w fun e w' => e = .returned (.int .i64 r) ∧ Drawn0 w w' := by
 have HR0 := Aside0.mk hr0
 have HC0 := Aside0.mk hc0
 clear hr0 hc0
 have H : (laws_heldInt64SS.l0 k l0 a1 0) = some r := h
 clear h
 have H' := Aside0.mk H
 clear H
 go_enter Try.func23, Try.ntmps23
 go_wp2
 go_loopg [1, 5] k (fun kq v1 v5 w' => ∃ (x1_1 : Int) (x5_1 : Int), v1 = .int .i64 x1_1 ∧ v5 = .int .i64 x5_1 ∧ Aside0 (laws_heldInt64SS.l0 kq l0 x1_1 x5_1 = some r) ∧ Aside0 (kq ≤ k) ∧ Drawn0 w w')
 case atStart => exact ⟨(a1), (0), rs_, rs_, H', ⟨Nat.le_refl _⟩, by repeat (first | exact Drawn0.refl _ | apply Drawn0.step)⟩
 case round =>
  clear H'
  try clear c2
  try clear p2
  obtain ⟨x1_1, x5_1, rfl, rfl, HA, HK1, ⟨m1, rfl⟩⟩ := hrel
  cases gk with
  | zero => exact absurd HA.out (by simp [laws_heldInt64SS.l0])
  | succ k1 =>
   have H := HA.out
   clear HA
   simp only [laws_heldInt64SS.l0] at H
   by_cases c3 : x5_1 < (l0.length : Int)
   ·rw [if_pos c3] at H
    have c3b0 : decide (x5_1 < (l0.length : Int)) = true := decide_eq_true c3
    clear c3
    by_cases c4 : 0 ≤ x5_1
    ·rw [if_pos c4] at H
     have c4b0 : decide (0 ≤ x5_1) = true := decide_eq_true c4
     clear c4
     replace H := Option.bind_eq_some_iff.mp H
     obtain ⟨t150, A50, H⟩ := H
     replace H : (if t150 < 0 then (some (-1)) else (laws_heldInt64SS.l0 k1 l0 t150 (wrap64 (x5_1 + 1)))) = some r := H
     have A5 := Aside0.mk A50
     clear A50
     by_cases c6 : t150 < 0
     ·rw [if_pos c6] at H
      have c6b0 : decide (t150 < 0) = true := decide_eq_true c6
      clear c6
      obtain rfl := Option.some.inj H
      have p149 : 0 ≤ (x5_1 : Int) := od_
      have q149 : x5_1 < (l0.length : Int) := od_
      obtain ⟨ad149, A149_0, c149_0, e149, hx149_0, hl149_0, hi149_0⟩ := at_L1 HR0.out x5_1 p149 q149
      cases e149
      have HR149_0 := Aside0.mk hi149_0
      have HC149_0 := Aside0.mk hl149_0
      clear hi149_0 hl149_0
      replace p149 := eq_true p149
      replace q149 := eq_true q149
      go_wp2_with (first | ((with_reducible refine gate_callee (f := 37) rfl ?_); refine gL_ 17 Try.func37 #[.slice A149_0 (rd_L1 l0 x5_1).length c149_0, .int .i64 x1_1] ?_; (with_reducible refine (laws_heldInt64S.calls k1 _ _ (rd_L1 l0 x5_1) x1_1 t150 _ ?side1 ?side2 A5.out).mono ?_); (case side1 => repeat (first | exact HR149_0.out | (with_reducible refine Kd.C_alloc ?_ _) | (with_reducible refine Kd.C_drewN ?_ _) | (with_reducible refine Kd.C_drew ?_))); (case side2 => exact HC149_0.out); rintro e w' ⟨rfl, ⟨nd, rfl⟩⟩; refine ⟨_, rfl, ?_⟩))
      go_ret
      exact ⟨by first | rfl | (simp; done) | (simp [*]; done), by repeat (first | exact Drawn0.refl _ | apply Drawn0.step)⟩
     ·rw [if_neg c6] at H
      have c6b0 : decide (t150 < 0) = false := decide_eq_false c6
      clear c6
      have H' := Aside0.mk H
      clear H
      have p149 : 0 ≤ (x5_1 : Int) := od_
      have q149 : x5_1 < (l0.length : Int) := od_
      obtain ⟨ad149, A149_0, c149_0, e149, hx149_0, hl149_0, hi149_0⟩ := at_L1 HR0.out x5_1 p149 q149
      cases e149
      have HR149_0 := Aside0.mk hi149_0
      have HC149_0 := Aside0.mk hl149_0
      clear hi149_0 hl149_0
      replace p149 := eq_true p149
      replace q149 := eq_true q149
      go_wp2_with (first | ((with_reducible refine gate_callee (f := 37) rfl ?_); refine gL_ 17 Try.func37 #[.slice A149_0 (rd_L1 l0 x5_1).length c149_0, .int .i64 x1_1] ?_; (with_reducible refine (laws_heldInt64S.calls k1 _ _ (rd_L1 l0 x5_1) x1_1 t150 _ ?side1 ?side2 A5.out).mono ?_); (case side1 => repeat (first | exact HR149_0.out | (with_reducible refine Kd.C_alloc ?_ _) | (with_reducible refine Kd.C_drewN ?_ _) | (with_reducible refine Kd.C_drew ?_))); (case side2 => exact HC149_0.out); rintro e w' ⟨rfl, ⟨nd, rfl⟩⟩; refine ⟨_, rfl, ?_⟩))
      go_roundg k1
      case measure => have := HK1.out; omega
      case rel => exact ⟨(t150), (wrap64 (x5_1 + 1)), rs_, rs_, H', ⟨by have := HK1.out; omega⟩, by repeat (first | exact Drawn0.refl _ | apply Drawn0.step)⟩
    ·rw [if_neg c4] at H
     exact absurd H (by simp)
   ·rw [if_neg c3] at H
    have c3b0 : decide (x5_1 < (l0.length : Int)) = false := decide_eq_false c3
    clear c3
    obtain rfl := Option.some.inj H
    go_wp2
    go_ret
    exact ⟨by first | rfl | (simp; done) | (simp [*]; done), by repeat (first | exact Drawn0.refl _ | apply Drawn0.step)⟩
def laws_eqFrac.f (a0_0 : Int) (a0_1 : Int) (a1_0 : Int) (a1_1 : Int) : Option (Bool) := if a0_0 = a1_0 then (if a0_1 = a1_1 then (some true) else (some false)) else (some false)
theorem laws_eqFrac.calls (a0_0 : Int) (a0_1 : Int) (a1_0 : Int) (a1_1 : Int) (r : Bool) (w : World) (h : laws_eqFrac.f a0_0 a0_1 a1_0 a1_1 = some r) :
  Calls Try.prog 52 #[.agg #[.int .i64 a0_0, .int .i64 a0_1], .agg #[.int .i64 a1_0, .int .i64 a1_1]] w fun e w' => e = .returned (.bool r) ∧ Below w.heap.size w w' := by
 have hu65 := Try.underlying65
 have HB := Aside0.mk (Below.refl w.heap.size w)
 have H : (if a0_0 = a1_0 then (if a0_1 = a1_1 then (some true) else (some false)) else (some false)) = some r := h
 clear h
 by_cases c3 : a0_0 = a1_0
 ·rw [if_pos c3] at H
  have c3b0 : (a0_0 == a1_0) = true := beq_iff_eq.mpr c3
  have c3b1 : (a0_0 != a1_0) = false := bne_eq_false_iff_eq.mpr c3
  clear c3
  by_cases c4 : a0_1 = a1_1
  ·rw [if_pos c4] at H
   have c4b0 : (a0_1 == a1_1) = true := beq_iff_eq.mpr c4
   have c4b1 : (a0_1 != a1_1) = false := bne_eq_false_iff_eq.mpr c4
   clear c4
   obtain rfl := Option.some.inj H
   go_enter Try.func52, Try.ntmps52
   go_wp2_with (first | ((with_reducible refine gate_dst (N := 2) rfl ?_); refine box_event ?hg (N := 2) ?hd (cs := #[.int .i64 a0_0, .int .i64 a0_1]) (t := 65) ?hr ?_; (case hd => rfl); (case hg => rfl); (case hr => first | (go_simp; done) | (go_simp; rfl)); intro gb154 hg w5 hbox hb; have n0_ := Aside0.mk (bs_ hb); have n1_ := Aside0.mk (hbox); have n2_ := Aside0.mk ((by rw [hg]; exact bz_ : w.heap.size ≤ gb154)); have n3_ := Aside0.mk ((by rw [hg]; exact bz_ : w.heap.size ≤ gb154)); clear HB; have HB := n0_; have BK154 := n1_; have GW154 := n2_; have GE154 := n3_; clear n0_ n1_ n2_ n3_; clear hb hbox hg) | ((with_reducible refine gate_dst (N := 3) rfl ?_); refine box_event ?hg (N := 3) ?hd (cs := #[.int .i64 a1_0, .int .i64 a1_1]) (t := 65) ?hr ?_; (case hd => rfl); (case hg => rfl); (case hr => first | (go_simp; done) | (go_simp; rfl)); intro gb155 hg w6 hbox hb; have n0_ := Aside0.mk (bb_ BK154.out hb); have n1_ := Aside0.mk (bs_ hb); have n2_ := Aside0.mk (hbox); have n3_ := Aside0.mk ((by rw [hg]; exact bz_ : w.heap.size ≤ gb155)); have n4_ := Aside0.mk ((by rw [hg]; exact bz_ : w.heap.size ≤ gb155)); have n5_ := Aside0.mk ((by rw [hg]; exact lt_ BK154.out : gb154 ≠ gb155)); have n6_ := Aside0.mk ((by rw [hg]; exact gt_ BK154.out : gb155 ≠ gb154)); clear BK154; clear HB; have BK154 := n0_; have HB := n1_; have BK155 := n2_; have GW155 := n3_; have GE155 := n4_; have NB154_155 := n5_; have NB155_154 := n6_; clear n0_ n1_ n2_ n3_ n4_ n5_ n6_; clear hb hbox hg; have hnb7 := NB154_155.out; have hnc7 := NB155_154.out; have hcz8_0 : w6.cell? ⟨gb154, 0, none⟩ = some (.int .i64 a0_0) := (blk_cell BK154.out 0).trans rfl; have hcz8_1 : w6.cell? ⟨gb154, 1, none⟩ = some (.int .i64 a0_1) := (blk_cell BK154.out 1).trans rfl; have hfz8_0 := blk_frozen BK154.out 0; have hfz8_1 := blk_frozen BK154.out 1; have hcz9_0 : w6.cell? ⟨gb155, 0, none⟩ = some (.int .i64 a1_0) := (blk_cell BK155.out 0).trans rfl; have hcz9_1 : w6.cell? ⟨gb155, 1, none⟩ = some (.int .i64 a1_1) := (blk_cell BK155.out 1).trans rfl; have hfz9_0 := blk_frozen BK155.out 0; have hfz9_1 := blk_frozen BK155.out 1))
   go_ret
   exact ⟨by first | rfl | (simp [errW_none, errW_some] <;> rfl) | (simp [*, errW_none, errW_some] <;> rfl), hb_⟩
  ·rw [if_neg c4] at H
   have c4b0 : (a0_1 == a1_1) = false := beq_eq_false_iff_ne.mpr c4
   have c4b1 : (a0_1 != a1_1) = true := bne_iff_ne.mpr c4
   obtain rfl := Option.some.inj H
   go_enter Try.func52, Try.ntmps52
   go_wp2_with (first | ((with_reducible refine gate_dst (N := 2) rfl ?_); refine box_event ?hg (N := 2) ?hd (cs := #[.int .i64 a0_0, .int .i64 a0_1]) (t := 65) ?hr ?_; (case hd => rfl); (case hg => rfl); (case hr => first | (go_simp; done) | (go_simp; rfl)); intro gb154 hg w10 hbox hb; have n0_ := Aside0.mk (bs_ hb); have n1_ := Aside0.mk (hbox); have n2_ := Aside0.mk ((by rw [hg]; exact bz_ : w.heap.size ≤ gb154)); have n3_ := Aside0.mk ((by rw [hg]; exact bz_ : w.heap.size ≤ gb154)); clear HB; have HB := n0_; have BK154 := n1_; have GW154 := n2_; have GE154 := n3_; clear n0_ n1_ n2_ n3_; clear hb hbox hg) | ((with_reducible refine gate_dst (N := 3) rfl ?_); refine box_event ?hg (N := 3) ?hd (cs := #[.int .i64 a1_0, .int .i64 a1_1]) (t := 65) ?hr ?_; (case hd => rfl); (case hg => rfl); (case hr => first | (go_simp; done) | (go_simp; rfl)); intro gb155 hg w11 hbox hb; have n0_ := Aside0.mk (bb_ BK154.out hb); have n1_ := Aside0.mk (bs_ hb); have n2_ := Aside0.mk (hbox); have n3_ := Aside0.mk ((by rw [hg]; exact bz_ : w.heap.size ≤ gb155)); have n4_ := Aside0.mk ((by rw [hg]; exact bz_ : w.heap.size ≤ gb155)); have n5_ := Aside0.mk ((by rw [hg]; exact lt_ BK154.out : gb154 ≠ gb155)); have n6_ := Aside0.mk ((by rw [hg]; exact gt_ BK154.out : gb155 ≠ gb154)); clear BK154; clear HB; have BK154 := n0_; have HB := n1_; have BK155 := n2_; have GW155 := n3_; have GE155 := n4_; have NB154_155 := n5_; have NB155_154 := n6_; clear n0_ n1_ n2_ n3_ n4_ n5_ n6_; clear hb hbox hg; have hnb12 := NB154_155.out; have hnc12 := NB155_154.out; have hcz13_0 : w11.cell? ⟨gb154, 0, none⟩ = some (.int .i64 a0_0) := (blk_cell BK154.out 0).trans rfl; have hcz13_1 : w11.cell? ⟨gb154, 1, none⟩ = some (.int .i64 a0_1) := (blk_cell BK154.out 1).trans rfl; have hfz13_0 := blk_frozen BK154.out 0; have hfz13_1 := blk_frozen BK154.out 1; have hcz14_0 : w11.cell? ⟨gb155, 0, none⟩ = some (.int .i64 a1_0) := (blk_cell BK155.out 0).trans rfl; have hcz14_1 : w11.cell? ⟨gb155, 1, none⟩ = some (.int .i64 a1_1) := (blk_cell BK155.out 1).trans rfl; have hfz14_0 := blk_frozen BK155.out 0; have hfz14_1 := blk_frozen BK155.out 1))
   go_ret
   exact ⟨by first | rfl | (simp [errW_none, errW_some] <;> rfl) | (simp [*, errW_none, errW_some] <;> rfl), hb_⟩
 ·rw [if_neg c3] at H
  have c3b0 : (a0_0 == a1_0) = false := beq_eq_false_iff_ne.mpr c3
  have c3b1 : (a0_0 != a1_0) = true := bne_iff_ne.mpr c3
  obtain rfl := Option.some.inj H
  go_enter Try.func52, Try.ntmps52
  go_wp2_with (first | ((with_reducible refine gate_dst (N := 2) rfl ?_); refine box_event ?hg (N := 2) ?hd (cs := #[.int .i64 a0_0, .int .i64 a0_1]) (t := 65) ?hr ?_; (case hd => rfl); (case hg => rfl); (case hr => first | (go_simp; done) | (go_simp; rfl)); intro gb154 hg w15 hbox hb; have n0_ := Aside0.mk (bs_ hb); have n1_ := Aside0.mk (hbox); have n2_ := Aside0.mk ((by rw [hg]; exact bz_ : w.heap.size ≤ gb154)); have n3_ := Aside0.mk ((by rw [hg]; exact bz_ : w.heap.size ≤ gb154)); clear HB; have HB := n0_; have BK154 := n1_; have GW154 := n2_; have GE154 := n3_; clear n0_ n1_ n2_ n3_; clear hb hbox hg) | ((with_reducible refine gate_dst (N := 3) rfl ?_); refine box_event ?hg (N := 3) ?hd (cs := #[.int .i64 a1_0, .int .i64 a1_1]) (t := 65) ?hr ?_; (case hd => rfl); (case hg => rfl); (case hr => first | (go_simp; done) | (go_simp; rfl)); intro gb155 hg w16 hbox hb; have n0_ := Aside0.mk (bb_ BK154.out hb); have n1_ := Aside0.mk (bs_ hb); have n2_ := Aside0.mk (hbox); have n3_ := Aside0.mk ((by rw [hg]; exact bz_ : w.heap.size ≤ gb155)); have n4_ := Aside0.mk ((by rw [hg]; exact bz_ : w.heap.size ≤ gb155)); have n5_ := Aside0.mk ((by rw [hg]; exact lt_ BK154.out : gb154 ≠ gb155)); have n6_ := Aside0.mk ((by rw [hg]; exact gt_ BK154.out : gb155 ≠ gb154)); clear BK154; clear HB; have BK154 := n0_; have HB := n1_; have BK155 := n2_; have GW155 := n3_; have GE155 := n4_; have NB154_155 := n5_; have NB155_154 := n6_; clear n0_ n1_ n2_ n3_ n4_ n5_ n6_; clear hb hbox hg; have hnb17 := NB154_155.out; have hnc17 := NB155_154.out; have hcz18_0 : w16.cell? ⟨gb154, 0, none⟩ = some (.int .i64 a0_0) := (blk_cell BK154.out 0).trans rfl; have hcz18_1 : w16.cell? ⟨gb154, 1, none⟩ = some (.int .i64 a0_1) := (blk_cell BK154.out 1).trans rfl; have hfz18_0 := blk_frozen BK154.out 0; have hfz18_1 := blk_frozen BK154.out 1; have hcz19_0 : w16.cell? ⟨gb155, 0, none⟩ = some (.int .i64 a1_0) := (blk_cell BK155.out 0).trans rfl; have hcz19_1 : w16.cell? ⟨gb155, 1, none⟩ = some (.int .i64 a1_1) := (blk_cell BK155.out 1).trans rfl; have hfz19_0 := blk_frozen BK155.out 0; have hfz19_1 := blk_frozen BK155.out 1))
  go_ret
  exact ⟨by first | rfl | (simp [errW_none, errW_some] <;> rfl) | (simp [*, errW_none, errW_some] <;> rfl), hb_⟩
def spec_l01Gcd.l0 : Nat → Int → Int → Option (Int)
 | 0, _, _ => none
 | k + 1, x0, x1 => if x1 = 0 then (some (mx x0 (wrap64 (-x0)))) else (spec_l01Gcd.l0 k x1 (Int.tmod x0 x1))
def spec_l01Gcd.f (k : Nat) (a0 : Int) (a1 : Int) : Option (Int) := spec_l01Gcd.l0 k a0 a1
theorem spec_l01Gcd.mono_l : ∀ k, (∀ y0 y1, LeO (spec_l01Gcd.l0 k y0 y1) (spec_l01Gcd.l0 (k + 1) y0 y1))
 | 0 => fun _ _ r h => by simp [spec_l01Gcd.l0] at h
 | k + 1 => by
  have ih0 := spec_l01Gcd.mono_l k
  ·intro y0 y1
   unfold spec_l01Gcd.l0
   repeat' first
   | (with_reducible exact ih0 _ _)
   | (with_reducible exact LeO.refl _)
   | (with_reducible exact LeO.none _)
   | (with_reducible refine LeO.ite ?_ ?_)
   | (with_reducible refine LeO.bind ?_ (fun _ => ?_))
   | exact ih0 _ _
   | exact LeO.none _
   | refine LeO.ite ?_ ?_
   | refine LeO.bind ?_ (fun _ => ?_)
theorem spec_l01Gcd.mono : ∀ a0 a1 k, LeO (spec_l01Gcd.f k a0 a1) (spec_l01Gcd.f (k + 1) a0 a1) := by
 intro a0 a1 k
 have ih0 := spec_l01Gcd.mono_l k
 unfold spec_l01Gcd.f
 repeat' first
   | (with_reducible exact ih0 _ _)
   | (with_reducible exact LeO.refl _)
   | (with_reducible exact LeO.none _)
   | (with_reducible refine LeO.ite ?_ ?_)
   | (with_reducible refine LeO.bind ?_ (fun _ => ?_))
   | exact ih0 _ _
   | exact LeO.none _
   | refine LeO.ite ?_ ?_
   | refine LeO.bind ?_ (fun _ => ?_)
theorem spec_l01Gcd.calls (k : Nat) (a0 : Int) (a1 : Int) (r : Int) (w : World) (h : spec_l01Gcd.f k a0 a1 = some r) :
  Calls Try.prog 131 #[.int .i64 a0, .int .i64 a1] w fun e w' => e = .returned (.int .i64 r) ∧ Below w.heap.size w w' := by
 have HB := Aside0.mk (Below.refl w.heap.size w)
 have H : (spec_l01Gcd.l0 k a0 a1) = some r := h
 clear h
 have H' := Aside0.mk H
 clear H
 go_enter Try.func131, Try.ntmps131
 go_wp2
 go_loopg [0, 1] k (fun kq v0 v1 w' => ∃ (x0_1 : Int) (x1_1 : Int), v0 = .int .i64 x0_1 ∧ v1 = .int .i64 x1_1 ∧ Aside0 (spec_l01Gcd.l0 kq x0_1 x1_1 = some r) ∧ Aside0 (kq ≤ k) ∧ Aside0 (Below w.heap.size w w'))
 case atStart => exact ⟨(a0), (a1), rs_, rs_, H', ⟨Nat.le_refl _⟩, ⟨hb_⟩⟩
 case round =>
  clear H'
  try clear c1
  try clear p2
  obtain ⟨x0_1, x1_1, rfl, rfl, HA, HK1, HB⟩ := hrel
  cases gk with
  | zero => exact absurd HA.out (by simp [spec_l01Gcd.l0])
  | succ k1 =>
   have H := HA.out
   clear HA
   simp only [spec_l01Gcd.l0] at H
   by_cases c3 : x1_1 = 0
   ·rw [if_pos c3] at H
    have c3b0 : (x1_1 == 0) = true := beq_iff_eq.mpr c3
    have c3b1 : (x1_1 != 0) = false := bne_eq_false_iff_eq.mpr c3
    clear c3
    obtain ⟨ji4, hji4⟩ : ∃ j_ : Int, (mx x0_1 (wrap64 (-x0_1))) = j_ := ⟨_, rfl⟩
    replace H : (some ji4) = some r := by first | (rw [hji4] at H; exact H) | (simp only [hji4] at H ⊢; exact H)
    have hji4_ : (if x0_1 < (wrap64 (-x0_1)) then (wrap64 (-x0_1)) else x0_1) = ji4 := hji4
    obtain rfl := Option.some.inj H
    go_wp2
    go_ret
    exact ⟨by first | rfl | (simp [errW_none, errW_some] <;> rfl) | (simp only [← hji4]; first | rfl | (simp [errW_none, errW_some] <;> rfl)) | (simp [*, errW_none, errW_some] <;> rfl), hb_⟩
   ·rw [if_neg c3] at H
    have c3b0 : (x1_1 == 0) = false := beq_eq_false_iff_ne.mpr c3
    have c3b1 : (x1_1 != 0) = true := bne_iff_ne.mpr c3
    have H' := Aside0.mk H
    clear H
    go_wp2
    go_roundg k1
    case measure => have := HK1.out; omega
    case rel => exact ⟨(x1_1), (Int.tmod x0_1 x1_1), rs_, rs_, H', ⟨by have := HK1.out; omega⟩, ⟨hb_⟩⟩
def spec_l01Frac.f (k : Nat) (a0 : Int) (a1 : Int) : Option (Int × Int) := if a1 < 0 then ((spec_l01Gcd.f k (wrap64 (-a0)) (wrap64 (-a1))).bind fun t437 => (if t437 = 0 then (none) else (some (wrap64 (Int.tdiv (wrap64 (-a0)) t437), wrap64 (Int.tdiv (wrap64 (-a1)) t437))))) else ((spec_l01Gcd.f k a0 a1).bind fun t438 => (if t438 = 0 then (none) else (some (wrap64 (Int.tdiv a0 t438), wrap64 (Int.tdiv a1 t438)))))
theorem spec_l01Frac.mono : ∀ a0 a1 k, LeO (spec_l01Frac.f k a0 a1) (spec_l01Frac.f (k + 1) a0 a1) := by
 intro a0 a1 k
 unfold spec_l01Frac.f
 repeat' first
   | (with_reducible exact spec_l01Gcd.mono _ _ _)
   | (with_reducible exact LeO.refl _)
   | (with_reducible exact LeO.none _)
   | (with_reducible refine LeO.ite ?_ ?_)
   | (with_reducible refine LeO.bind ?_ (fun _ => ?_))
   | exact spec_l01Gcd.mono _ _ _
   | exact LeO.none _
   | refine LeO.ite ?_ ?_
   | refine LeO.bind ?_ (fun _ => ?_)
def spec_l01Frac.T5 : Bool × List (List Nat × List Nat) := (true, [([], []), ([], []), ([0, 1], [0, 1]), ([], []), ([], []), ([3, 4], [3, 4]), ([2, 5], [2, 5]), ([6, 0, 1, 2, 3, 4, 5, 6], [6])])
def spec_l01Frac.B5 : List Nat := [0, 0, 3, 0, 0, 24, 63, 127]
theorem spec_l01Frac.tab5 : rtab .any (opsOf Try.f96 5) = spec_l01Frac.T5 := by kernel_rfl
theorem spec_l01Frac.bits5 : waitsOk spec_l01Frac.T5.2 spec_l01Frac.B5 = true := by kernel_rfl
theorem spec_l01Frac.calls (k : Nat) (a0 : Int) (a1 : Int) (r1 : Int) (r2 : Int) (w : World) (h : spec_l01Frac.f k a0 a1 = some (r1, r2)) :
  Calls Try.prog 96 #[.int .i64 a0, .int .i64 a1] w fun e w' => e = .returned (.agg #[.int .i64 r1, .int .i64 r2]) ∧ Below w.heap.size w w' := by
 have hu65 := Try.underlying65
 have HB := Aside0.mk (Below.refl w.heap.size w)
 have H : (if a1 < 0 then ((spec_l01Gcd.f k (wrap64 (-a0)) (wrap64 (-a1))).bind fun t437 => (if t437 = 0 then (none) else (some (wrap64 (Int.tdiv (wrap64 (-a0)) t437), wrap64 (Int.tdiv (wrap64 (-a1)) t437))))) else ((spec_l01Gcd.f k a0 a1).bind fun t438 => (if t438 = 0 then (none) else (some (wrap64 (Int.tdiv a0 t438), wrap64 (Int.tdiv a1 t438)))))) = some (r1, r2) := h
 clear h
 by_cases c3 : a1 < 0
 ·rw [if_pos c3] at H
  have c3b0 : decide (a1 < 0) = true := decide_eq_true c3
  clear c3
  replace H := Option.bind_eq_some_iff.mp H
  obtain ⟨t437, A40, H⟩ := H
  replace H : (if t437 = 0 then (none) else (some (wrap64 (Int.tdiv (wrap64 (-a0)) t437), wrap64 (Int.tdiv (wrap64 (-a1)) t437)))) = some (r1, r2) := H
  have A4 := Aside0.mk A40
  clear A40
  by_cases c5 : t437 = 0
  ·rw [if_pos c5] at H
   exact absurd H (by simp)
  ·rw [if_neg c5] at H
   have c5b0 : (t437 == 0) = false := beq_eq_false_iff_ne.mpr c5
   have c5b1 : (t437 != 0) = true := bne_iff_ne.mpr c5
   simp only [Option.some.injEq, Prod.mk.injEq] at H
   obtain ⟨rfl, rfl⟩ := H
   go_enter Try.func96, Try.ntmps96
   try go_wp2_with (first | ((with_reducible refine gate_dst (N := 4) rfl ?_); refine box_event ?hg (N := 4) ?hd (cs := #[.int .i64 0, .int .i64 0]) (t := 65) ?hr ?_; (case hd => rfl); (case hg => rfl); (case hr => first | (go_simp; done) | (go_simp; rfl)); intro gb436 hg w6 hbox hb; have n0_ := Aside0.mk (bs_ hb); have n1_ := Aside0.mk (hbox); have n2_ := Aside0.mk ((by rw [hg]; exact bz_ : w.heap.size ≤ gb436)); have n3_ := Aside0.mk ((by rw [hg]; exact bz_ : w.heap.size ≤ gb436)); clear HB; have HB := n0_; have BK436 := n1_; have GW436 := n2_; have GE436 := n3_; clear n0_ n1_ n2_ n3_; clear hb hbox hg) | ((with_reducible refine gate_callee (f := 131) rfl ?_); refine gL_ 14 Try.func131 #[.int .i64 (wrap64 (-a0)), .int .i64 (wrap64 (-a1))] ?_; (with_reducible refine (spec_l01Gcd.calls k (wrap64 (-a0)) (wrap64 (-a1)) t437 _ A4.out).mono ?_); rintro e w7 ⟨rfl, hb⟩; refine ⟨_, rfl, ?_⟩; have n0_ := Aside0.mk (bb_ BK436.out hb); have n1_ := Aside0.mk (bs_ hb); clear BK436; clear HB; have BK436 := n0_; have HB := n1_; clear n0_ n1_; (try clear hb); (try clear hb2); (try clear hk); (try clear hi)))
   have n0_ := Aside0.mk (blk_drew BK436.out)
   have n1_ := Aside0.mk (below_drew1 HB.out)
   clear BK436
   clear HB
   have BK436 := n0_
   have HB := n1_
   clear n0_ n1_
   refine st_ (n := 8) (S := fun w' => True) (ds := []) trivial (fun hHeld => ?_); refine with_tabW spec_l01Frac.tab5 spec_l01Frac.bits5 (fun HT_ HW_ => ?_)
   generalize w7.drew = w8 at BK436 HB hHeld ⊢
   refine pu_ 0 15 ?_; refine pu_ 1 16 ?_; refine pu_ 2 17 ?_; refine pu_ 3 18 ?_; refine pu_ 4 19 ?_; refine pu_ 5 20 ?_; refine pu_ 6 21 ?_
   refine on_ 7 none (fun K hK => ?_)
   have hs9 : w8.cell? ⟨gb436, 0, none⟩ = some (.int .i64 0) := (blk_cell BK436.out 0).trans rfl
   have hfs9 := blk_frozen BK436.out 0
   have hs10 : w8.cell? ⟨gb436, 1, none⟩ = some (.int .i64 0) := (blk_cell BK436.out 1).trans rfl
   have hfs10 := blk_frozen BK436.out 1
   refine skip_ (w1 := ?_) (by rfl) rfl ?_ ?_
   rotate_left
   ·go_simp
    rfl
   refine hK.out _ _ trivial (fun hHeld => ?_)
   clear hK K
   refine done_ (done_of HT_.out (by kernel_rfl)) ?_
   try go_wp2
   refine bodyPost_ret (results_cell_row rfl _ _ gb436 65 #[.int .i64 (wrap64 (Int.tdiv (wrap64 (-a0)) t437)), .int .i64 (wrap64 (Int.tdiv (wrap64 (-a1)) t437))] (0, 0) _ rfl (by (with_reducible repeat (first | refine blk_drewN ?_ _ | refine blk_drew ?_ | refine blk_alloc ?_ _)); refine blk_put (cs := #[.int .i64 (wrap64 (Int.tdiv (wrap64 (-a0)) t437)), .int .i64 0]) ?_ 1 _ rfl; (with_reducible repeat (first | refine blk_drewN ?_ _ | refine blk_drew ?_ | refine blk_alloc ?_ _)); refine blk_put (cs := #[.int .i64 0, .int .i64 0]) ?_ 0 _ rfl; (with_reducible repeat (first | refine blk_drewN ?_ _ | refine blk_drew ?_ | refine blk_alloc ?_ _)); exact BK436.out) Try.underlying65 rfl (by kernel_rfl)) rfl ?_
   exact ⟨by first | rfl | (simp [errW_none, errW_some] <;> rfl) | (simp [*, errW_none, errW_some] <;> rfl), hb_⟩
 ·rw [if_neg c3] at H
  have c3b0 : decide (a1 < 0) = false := decide_eq_false c3
  clear c3
  replace H := Option.bind_eq_some_iff.mp H
  obtain ⟨t438, A110, H⟩ := H
  replace H : (if t438 = 0 then (none) else (some (wrap64 (Int.tdiv a0 t438), wrap64 (Int.tdiv a1 t438)))) = some (r1, r2) := H
  have A11 := Aside0.mk A110
  clear A110
  by_cases c12 : t438 = 0
  ·rw [if_pos c12] at H
   exact absurd H (by simp)
  ·rw [if_neg c12] at H
   have c12b0 : (t438 == 0) = false := beq_eq_false_iff_ne.mpr c12
   have c12b1 : (t438 != 0) = true := bne_iff_ne.mpr c12
   simp only [Option.some.injEq, Prod.mk.injEq] at H
   obtain ⟨rfl, rfl⟩ := H
   go_enter Try.func96, Try.ntmps96
   try go_wp2_with (first | ((with_reducible refine gate_dst (N := 4) rfl ?_); refine box_event ?hg (N := 4) ?hd (cs := #[.int .i64 0, .int .i64 0]) (t := 65) ?hr ?_; (case hd => rfl); (case hg => rfl); (case hr => first | (go_simp; done) | (go_simp; rfl)); intro gb436 hg w13 hbox hb; have n0_ := Aside0.mk (bs_ hb); have n1_ := Aside0.mk (hbox); have n2_ := Aside0.mk ((by rw [hg]; exact bz_ : w.heap.size ≤ gb436)); have n3_ := Aside0.mk ((by rw [hg]; exact bz_ : w.heap.size ≤ gb436)); clear HB; have HB := n0_; have BK436 := n1_; have GW436 := n2_; have GE436 := n3_; clear n0_ n1_ n2_ n3_; clear hb hbox hg) | ((with_reducible refine gate_callee (f := 131) rfl ?_); refine gL_ 14 Try.func131 #[.int .i64 a0, .int .i64 a1] ?_; (with_reducible refine (spec_l01Gcd.calls k a0 a1 t438 _ A11.out).mono ?_); rintro e w14 ⟨rfl, hb⟩; refine ⟨_, rfl, ?_⟩; have n0_ := Aside0.mk (bb_ BK436.out hb); have n1_ := Aside0.mk (bs_ hb); clear BK436; clear HB; have BK436 := n0_; have HB := n1_; clear n0_ n1_; (try clear hb); (try clear hb2); (try clear hk); (try clear hi)))
   have n0_ := Aside0.mk (blk_drew BK436.out)
   have n1_ := Aside0.mk (below_drew1 HB.out)
   clear BK436
   clear HB
   have BK436 := n0_
   have HB := n1_
   clear n0_ n1_
   refine st_ (n := 8) (S := fun w' => True) (ds := []) trivial (fun hHeld => ?_); refine with_tabW spec_l01Frac.tab5 spec_l01Frac.bits5 (fun HT_ HW_ => ?_)
   generalize w14.drew = w15 at BK436 HB hHeld ⊢
   refine pu_ 0 15 ?_; refine pu_ 1 16 ?_; refine pu_ 2 17 ?_; refine pu_ 3 18 ?_; refine pu_ 4 19 ?_; refine pu_ 5 20 ?_; refine pu_ 6 21 ?_
   refine on_ 7 none (fun K hK => ?_)
   have hs16 : w15.cell? ⟨gb436, 0, none⟩ = some (.int .i64 0) := (blk_cell BK436.out 0).trans rfl
   have hfs16 := blk_frozen BK436.out 0
   have hs17 : w15.cell? ⟨gb436, 1, none⟩ = some (.int .i64 0) := (blk_cell BK436.out 1).trans rfl
   have hfs17 := blk_frozen BK436.out 1
   refine skip_ (w1 := ?_) (by rfl) rfl ?_ ?_
   rotate_left
   ·go_simp
    rfl
   refine hK.out _ _ trivial (fun hHeld => ?_)
   clear hK K
   refine done_ (done_of HT_.out (by kernel_rfl)) ?_
   try go_wp2
   refine bodyPost_ret (results_cell_row rfl _ _ gb436 65 #[.int .i64 (wrap64 (Int.tdiv a0 t438)), .int .i64 (wrap64 (Int.tdiv a1 t438))] (0, 0) _ rfl (by (with_reducible repeat (first | refine blk_drewN ?_ _ | refine blk_drew ?_ | refine blk_alloc ?_ _)); refine blk_put (cs := #[.int .i64 (wrap64 (Int.tdiv a0 t438)), .int .i64 0]) ?_ 1 _ rfl; (with_reducible repeat (first | refine blk_drewN ?_ _ | refine blk_drew ?_ | refine blk_alloc ?_ _)); refine blk_put (cs := #[.int .i64 0, .int .i64 0]) ?_ 0 _ rfl; (with_reducible repeat (first | refine blk_drewN ?_ _ | refine blk_drew ?_ | refine blk_alloc ?_ _)); exact BK436.out) Try.underlying65 rfl (by kernel_rfl)) rfl ?_
   exact ⟨by first | rfl | (simp [errW_none, errW_some] <;> rfl) | (simp [*, errW_none, errW_some] <;> rfl), hb_⟩
def spec_l01Own.f (l0 : List Int) : Option (List Int) := (some (([] : List Int) : List Int)).bind fun y174 => (if y174.length + l0.length < 17592186044416 then (some (y174 ++ l0)) else (none))
theorem spec_l01Own.calls (A0 : Option Addr) (c0 : Nat) (l0 : List Int) (r : List Int) (w : World) (hr0 : Kd.C (Kd.int .i64) w A0 l0.length l0) (hc0 : l0.length ≤ c0) (h : spec_l01Own.f l0 = some r) :
  Calls Try.prog 89 #[.slice A0 l0.length c0] w fun e w' => ∃ v0_ : Value, e = .returned (v0_) ∧ Kd.R (Kd.int .i64) 2 w' w.heap.size (fun _ => True) v0_ r ∧ Below w.heap.size w w' := by
 have HR0 := Aside0.mk hr0
 have HC0 := Aside0.mk hc0
 clear hr0 hc0
 have HB := Aside0.mk (Below.refl w.heap.size w)
 have H : ((some (([] : List Int) : List Int)).bind fun y174 => (if y174.length + l0.length < 17592186044416 then (some (y174 ++ l0)) else (none))) = some r := h
 clear h
 obtain ⟨y174, hy174⟩ : ∃ y_ : List Int, y_ = (([] : List Int)) := ⟨_, rfl⟩
 replace H : (if y174.length + l0.length < 17592186044416 then (some (y174 ++ l0)) else (none)) = some r := by first | (rw [hy174]; with_reducible exact H) | (have H2_ := (Option.bind_some _ _).symm.trans H; rw [hy174]; with_reducible exact H2_) | (have H2_ := (Option.bind_some _ _).symm.trans H; with_reducible exact H2_) | with_reducible exact H | (rw [hy174]; exact H) | exact H
 have Ny174 := Aside0.mk hy174
 clear hy174
 by_cases c2 : y174.length + l0.length < 17592186044416
 ·rw [if_pos c2] at H
  have LMc2 := Aside0.mk c2
  clear c2
  obtain ⟨y177, hy177⟩ : ∃ y_ : List Int, y_ = (y174 ++ l0) := ⟨_, rfl⟩
  replace H : (some y177) = some r := by first | (rw [hy177]; with_reducible exact H) | (have H2_ := (Option.bind_some _ _).symm.trans H; rw [hy177]; with_reducible exact H2_) | (have H2_ := (Option.bind_some _ _).symm.trans H; with_reducible exact H2_) | with_reducible exact H | (rw [hy177]; exact H) | exact H
  have Ny177 := Aside0.mk hy177
  clear hy177
  obtain rfl := Option.some.inj H
  go_enter Try.func89, Try.ntmps89
  go_wp2_with (first | ((with_reducible refine gate_dst (N := 3) rfl ?_); refine Kd.R_lit (Kd.int .i64) _ 2 ?hg (N := 3) ?hd (xs := ([] : List Int)) (inner := []) (ok := fun _ => True) (okp := fun _ => True) ?hr ?hp (fun _ hk => hk) trivial (Below.refl _ _) (Nat.le_refl _) (by simp) ?_; (case hd => rfl); (case hg => rfl); (case hr => first | (go_simp; done) | (go_simp; rfl)); (case hp => exact (Reps.none _ _)); intro v175 w3 ho4 hb hg_ hnew_; clear hg_ hnew_; (first | rw [← Ny174.out] at ho4 | (simp only [Int.reduceToNat] at ho4; rw [← Ny174.out] at ho4)); have n0_ := Aside0.mk (Kd.R_lower ho4 bz_); have n1_ := Aside0.mk (bs_ hb); clear HB; have HO176 := n0_; have HB := n1_; clear n0_ n1_; clear hb ho4) | ((with_reducible refine gate_builtin (b := .append) (xs := #[.tmp 3, .tmp 4]) rfl ?_); at_builtin; refine Kd.R_append_rows (Kd.int .i64) (w0 := w) w.heap.size rfl (.tmp 3) (.tmp 4) 23 2 (.int .i64 0) 8 rfl Try.underlying23 info2 rfl (by decide) (by omega) v175 y174 l0 _ _ _ (fun _ => True) (fun _ => False) rfl rfl ?aO ?aR (fun _ _ h => h) (fun _ h => h.elim) ?aF ?aB ?aS ?aL ?_; (case aR => exact cb_ HR0.out HB.out); (case aB => exact hb_); (case aF => exact (fun _ _ => trivial)); (case aO => exact (ro_ HO176.out)); (case aS => exact bz_); (case aL => have := LMc2.out; omega); intro v178 w5 ho hb hg hat; rw [← Ny177.out] at ho; have n0_ := Aside0.mk (hb); have n1_ := Aside0.mk (ho); clear HB; clear HO176; have HB := n0_; have HO179 := n1_; clear n0_ n1_; clear ho hb hg hat))
  go_ret
  exact ⟨_, by first | rfl | (simp [errW_none, errW_some] <;> rfl) | (simp [*, errW_none, errW_some] <;> rfl), ro_ HO179.out, hb_⟩
 ·rw [if_neg c2] at H
  exact absurd H (by simp)
def spec_l05Code.l0 : Nat → List Int → Int → Option (Int)
 | 0, _, _ => none
 | k + 1, x1, x5 => if x5 < (x1.length : Int) then (if 0 ≤ x5 then ((spec_l01In.f (rd x1 x5) 1 20).bind fun t892 => (if t892 = true then (spec_l05Code.l0 k x1 (wrap64 (x5 + 1))) else (some 2))) else (none)) else (some 0)
def spec_l05Code.f (k : Nat) (l0_0 : List (List Int)) (l0_1 : List Int) (l1 : List Int) : Option (Int) := (spec_l01Is.f k l0_0 l0_1).bind fun t890 => (if t890 = true then (if (l1.length : Int) = (l0_1.length : Int) then (spec_l05Code.l0 k l1 0) else (some 2)) else (some 1))
theorem spec_l05Code.mono_l : ∀ k, (∀ y0 y1, LeO (spec_l05Code.l0 k y0 y1) (spec_l05Code.l0 (k + 1) y0 y1))
 | 0 => fun _ _ r h => by simp [spec_l05Code.l0] at h
 | k + 1 => by
  have ih0 := spec_l05Code.mono_l k
  ·intro y0 y1
   unfold spec_l05Code.l0
   repeat' first
   | (with_reducible exact ih0 _ _)
   | (with_reducible exact spec_l01Is.mono _ _ _)
   | (with_reducible exact LeO.refl _)
   | (with_reducible exact LeO.none _)
   | (with_reducible refine LeO.ite ?_ ?_)
   | (with_reducible refine LeO.bind ?_ (fun _ => ?_))
   | exact ih0 _ _
   | exact spec_l01Is.mono _ _ _
   | exact LeO.none _
   | refine LeO.ite ?_ ?_
   | refine LeO.bind ?_ (fun _ => ?_)
theorem spec_l05Code.mono : ∀ a0 a1 a2 k, LeO (spec_l05Code.f k a0 a1 a2) (spec_l05Code.f (k + 1) a0 a1 a2) := by
 intro a0 a1 a2 k
 have ih0 := spec_l05Code.mono_l k
 unfold spec_l05Code.f
 repeat' first
   | (with_reducible exact ih0 _ _)
   | (with_reducible exact spec_l01Is.mono _ _ _)
   | (with_reducible exact LeO.refl _)
   | (with_reducible exact LeO.none _)
   | (with_reducible refine LeO.ite ?_ ?_)
   | (with_reducible refine LeO.bind ?_ (fun _ => ?_))
   | exact ih0 _ _
   | exact spec_l01Is.mono _ _ _
   | exact LeO.none _
   | refine LeO.ite ?_ ?_
   | refine LeO.bind ?_ (fun _ => ?_)
theorem spec_l05Code.calls (k : Nat) (A0_0 : Option Addr) (c0_0 : Nat) (l0_0 : List (List Int)) (A0_1 : Option Addr) (c0_1 : Nat) (l0_1 : List Int) (A1 : Option Addr) (c1 : Nat) (l1 : List Int) (r : Int) (w : World) (hr0_0 : Kd.C (Kd.slice 2 (Kd.int .i64)) w A0_0 l0_0.length l0_0) (hc0_0 : l0_0.length ≤ c0_0) (hr0_1 : Kd.C (Kd.int .i64) w A0_1 l0_1.length l0_1) (hc0_1 : l0_1.length ≤ c0_1) (hr1 : Kd.C (Kd.int .i64) w A1 l1.length l1) (hc1 : l1.length ≤ c1) (h : spec_l05Code.f k l0_0 l0_1 l1 = some r) :
  Calls Try.prog 85 #[.agg #[.slice A0_0 l0_0.length c0_0, .slice A0_1 l0_1.length c0_1], .slice A1 l1.length c1] w fun e w' => e = .returned (.int .i64 r) ∧ Below w.heap.size w w' := by
 have hu29 := Try.underlying29
 have HR0_0 := Aside0.mk hr0_0
 have HC0_0 := Aside0.mk hc0_0
 clear hr0_0 hc0_0
 have HR0_1 := Aside0.mk hr0_1
 have HC0_1 := Aside0.mk hc0_1
 clear hr0_1 hc0_1
 have HR1 := Aside0.mk hr1
 have HC1 := Aside0.mk hc1
 clear hr1 hc1
 have HB := Aside0.mk (Below.refl w.heap.size w)
 have H : ((spec_l01Is.f k l0_0 l0_1).bind fun t890 => (if t890 = true then (if (l1.length : Int) = (l0_1.length : Int) then (spec_l05Code.l0 k l1 0) else (some 2)) else (some 1))) = some r := h
 clear h
 replace H := Option.bind_eq_some_iff.mp H
 obtain ⟨t890, A30, H⟩ := H
 replace H : (if t890 = true then (if (l1.length : Int) = (l0_1.length : Int) then (spec_l05Code.l0 k l1 0) else (some 2)) else (some 1)) = some r := H
 have A3 := Aside0.mk A30
 clear A30
 by_cases c4 : t890 = true
 ·subst c4
  have H1 : (if (l1.length : Int) = (l0_1.length : Int) then (spec_l05Code.l0 k l1 0) else (some 2)) = some r := by rw [if_pos rfl] at H; exact H
  clear H
  have H := H1
  clear H1
  by_cases c5 : (l1.length : Int) = (l0_1.length : Int)
  ·rw [if_pos c5] at H
   have c5b0 : ((l1.length : Int) == (l0_1.length : Int)) = true := beq_iff_eq.mpr c5
   have c5b1 : ((l1.length : Int) != (l0_1.length : Int)) = false := bne_eq_false_iff_eq.mpr c5
   have c5b2 : (l1.length == l0_1.length) = true := by first | simpa using c5 | (simp at c5 ⊢; omega)
   clear c5
   have H' := Aside0.mk H
   clear H
   go_enter Try.func85, Try.ntmps85
   go_wp2_with (first | ((with_reducible refine gate_dst (N := 2) rfl ?_); refine box_event ?hg (N := 2) ?hd (cs := #[.slice A0_0 l0_0.length c0_0, .slice A0_1 l0_1.length c0_1]) (t := 29) ?hr ?_; (case hd => rfl); (case hg => rfl); (case hr => first | (go_simp; done) | (go_simp; rfl)); intro gb889 hg w6 hbox hb; have n0_ := Aside0.mk (bs_ hb); have n1_ := Aside0.mk (hbox); have n2_ := Aside0.mk ((by rw [hg]; exact bz_ : w.heap.size ≤ gb889)); have n3_ := Aside0.mk ((by rw [hg]; exact bz_ : w.heap.size ≤ gb889)); clear HB; have HB := n0_; have BK889 := n1_; have GW889 := n2_; have GE889 := n3_; clear n0_ n1_ n2_ n3_; clear hb hbox hg; have hcz7_0 : w6.cell? ⟨gb889, 0, none⟩ = some (.slice A0_0 l0_0.length c0_0) := (blk_cell BK889.out 0).trans rfl; have hcz7_1 : w6.cell? ⟨gb889, 1, none⟩ = some (.slice A0_1 l0_1.length c0_1) := (blk_cell BK889.out 1).trans rfl; have hfz7_0 := blk_frozen BK889.out 0; have hfz7_1 := blk_frozen BK889.out 1) | ((with_reducible refine gate_callee (f := 66) rfl ?_); refine gL_ 7 Try.func66 #[.agg #[.slice A0_0 l0_0.length c0_0, .slice A0_1 l0_1.length c0_1]] ?_; (with_reducible refine (spec_l01Is.calls k _ _ l0_0 _ _ l0_1 true _ ?side1 ?side2 ?side3 ?side4 A3.out).mono ?_); (case side1 => exact cb_ HR0_0.out HB.out); (case side2 => exact HC0_0.out); (case side3 => exact cb_ HR0_1.out HB.out); (case side4 => exact HC0_1.out); rintro e w8 ⟨rfl, hb⟩; refine ⟨_, rfl, ?_⟩; have n0_ := Aside0.mk (bb_ BK889.out hb); have n1_ := Aside0.mk (bs_ hb); clear BK889; clear HB; have BK889 := n0_; have HB := n1_; clear n0_ n1_; (try clear hb); (try clear hb2); (try clear hk); (try clear hi); have hcz9_0 : w8.cell? ⟨gb889, 0, none⟩ = some (.slice A0_0 l0_0.length c0_0) := (blk_cell BK889.out 0).trans rfl; have hcz9_1 : w8.cell? ⟨gb889, 1, none⟩ = some (.slice A0_1 l0_1.length c0_1) := (blk_cell BK889.out 1).trans rfl; have hfz9_0 := blk_frozen BK889.out 0; have hfz9_1 := blk_frozen BK889.out 1))
   go_loopg [5] k (fun kq v5 w' => ∃ (x5_1 : Int), v5 = .int .i64 x5_1 ∧ Aside0 (spec_l05Code.l0 kq l1 x5_1 = some r) ∧ Aside0 (kq ≤ k) ∧ Aside0 (w'.heap[gb889]? = some (.cells #[(.slice A0_0 l0_0.length c0_0), (.slice A0_1 l0_1.length c0_1)] 29 (0, 0))) ∧ Aside0 (Below w.heap.size w w'))
   case atStart => exact ⟨(0), rs_, H', ⟨Nat.le_refl _⟩, ⟨bk_⟩, ⟨hb_⟩⟩
   case round =>
    clear H'
    try clear c1
    try clear p2
    try clear c4
    try clear c5
    try clear c5b0
    try clear c5b1
    try clear c5b2
    try clear c6
    try clear c8
    try clear hcz7_0
    try clear hcz7_1
    try clear hcz9_0
    try clear hcz9_1
    try clear hfz7_0
    try clear hfz7_1
    try clear hfz9_0
    try clear hfz9_1
    obtain ⟨x5_1, rfl, HA, HK1, BK889, HB⟩ := hrel
    cases gk with
    | zero => exact absurd HA.out (by simp [spec_l05Code.l0])
    | succ k1 =>
     have H := HA.out
     clear HA
     simp only [spec_l05Code.l0] at H
     by_cases c10 : x5_1 < (l1.length : Int)
     ·rw [if_pos c10] at H
      have c10b0 : decide (x5_1 < (l1.length : Int)) = true := decide_eq_true c10
      clear c10
      by_cases c11 : 0 ≤ x5_1
      ·rw [if_pos c11] at H
       have c11b0 : decide (0 ≤ x5_1) = true := decide_eq_true c11
       clear c11
       replace H := Option.bind_eq_some_iff.mp H
       obtain ⟨t892, A120, H⟩ := H
       replace H : (if t892 = true then (spec_l05Code.l0 k1 l1 (wrap64 (x5_1 + 1))) else (some 2)) = some r := H
       have A12 := Aside0.mk A120
       clear A120
       by_cases c13 : t892 = true
       ·subst c13
        have H1 : (spec_l05Code.l0 k1 l1 (wrap64 (x5_1 + 1))) = some r := by rw [if_pos rfl] at H; exact H
        clear H
        have H := H1
        clear H1
        have H' := Aside0.mk H
        clear H
        have p891 : 0 ≤ (x5_1 : Int) := od_
        have q891 : x5_1 < (l1.length : Int) := od_
        obtain ⟨ad891, e891, hx891_0⟩ := Kd.at_int HR1.out x5_1 p891 q891
        cases e891
        replace hx891_0 := (HB.out.cell (World.block_lt_of_cell? w _ hx891_0)).trans hx891_0
        replace p891 := eq_true p891
        replace q891 := eq_true q891
        go_wp2_with (first | ((with_reducible refine gate_callee (f := 91) rfl ?_); refine gL_ 25 Try.func91 #[.int .i64 (rd l1 x5_1), .int .i64 1, .int .i64 20] ?_; (with_reducible refine (spec_l01In.calls (rd l1 x5_1) 1 20 true _ A12.out).mono ?_); rintro e w' ⟨rfl, ⟨nd, rfl⟩⟩; refine ⟨_, rfl, ?_⟩))
        go_roundg k1
        case measure => have := HK1.out; omega
        case rel => exact ⟨(wrap64 (x5_1 + 1)), rs_, H', ⟨by have := HK1.out; omega⟩, ⟨bk_⟩, ⟨hb_⟩⟩
       ·replace c13 := Bool.eq_false_iff.mpr c13
        subst c13
        have H1 : (some 2) = some r := by rw [if_neg (show ¬ (false = true) by decide)] at H; exact H
        clear H
        have H := H1
        clear H1
        obtain rfl := Option.some.inj H
        have p891 : 0 ≤ (x5_1 : Int) := od_
        have q891 : x5_1 < (l1.length : Int) := od_
        obtain ⟨ad891, e891, hx891_0⟩ := Kd.at_int HR1.out x5_1 p891 q891
        cases e891
        replace hx891_0 := (HB.out.cell (World.block_lt_of_cell? w _ hx891_0)).trans hx891_0
        replace p891 := eq_true p891
        replace q891 := eq_true q891
        go_wp2_with (first | ((with_reducible refine gate_callee (f := 91) rfl ?_); refine gL_ 25 Try.func91 #[.int .i64 (rd l1 x5_1), .int .i64 1, .int .i64 20] ?_; (with_reducible refine (spec_l01In.calls (rd l1 x5_1) 1 20 false _ A12.out).mono ?_); rintro e w' ⟨rfl, ⟨nd, rfl⟩⟩; refine ⟨_, rfl, ?_⟩))
        go_ret
        exact ⟨by first | rfl | (simp [errW_none, errW_some] <;> rfl) | (simp [*, errW_none, errW_some] <;> rfl), hb_⟩
      ·rw [if_neg c11] at H
       exact absurd H (by simp)
     ·rw [if_neg c10] at H
      have c10b0 : decide (x5_1 < (l1.length : Int)) = false := decide_eq_false c10
      clear c10
      obtain rfl := Option.some.inj H
      go_wp2
      go_ret
      exact ⟨by first | rfl | (simp [errW_none, errW_some] <;> rfl) | (simp [*, errW_none, errW_some] <;> rfl), hb_⟩
  ·rw [if_neg c5] at H
   have c5b0 : ((l1.length : Int) == (l0_1.length : Int)) = false := beq_eq_false_iff_ne.mpr c5
   have c5b1 : ((l1.length : Int) != (l0_1.length : Int)) = true := bne_iff_ne.mpr c5
   have c5b2 : (l1.length == l0_1.length) = false := by first | simpa using c5 | (simp at c5 ⊢; omega)
   obtain rfl := Option.some.inj H
   go_enter Try.func85, Try.ntmps85
   go_wp2_with (first | ((with_reducible refine gate_dst (N := 2) rfl ?_); refine box_event ?hg (N := 2) ?hd (cs := #[.slice A0_0 l0_0.length c0_0, .slice A0_1 l0_1.length c0_1]) (t := 29) ?hr ?_; (case hd => rfl); (case hg => rfl); (case hr => first | (go_simp; done) | (go_simp; rfl)); intro gb889 hg w14 hbox hb; have n0_ := Aside0.mk (bs_ hb); have n1_ := Aside0.mk (hbox); have n2_ := Aside0.mk ((by rw [hg]; exact bz_ : w.heap.size ≤ gb889)); have n3_ := Aside0.mk ((by rw [hg]; exact bz_ : w.heap.size ≤ gb889)); clear HB; have HB := n0_; have BK889 := n1_; have GW889 := n2_; have GE889 := n3_; clear n0_ n1_ n2_ n3_; clear hb hbox hg; have hcz15_0 : w14.cell? ⟨gb889, 0, none⟩ = some (.slice A0_0 l0_0.length c0_0) := (blk_cell BK889.out 0).trans rfl; have hcz15_1 : w14.cell? ⟨gb889, 1, none⟩ = some (.slice A0_1 l0_1.length c0_1) := (blk_cell BK889.out 1).trans rfl; have hfz15_0 := blk_frozen BK889.out 0; have hfz15_1 := blk_frozen BK889.out 1) | ((with_reducible refine gate_callee (f := 66) rfl ?_); refine gL_ 7 Try.func66 #[.agg #[.slice A0_0 l0_0.length c0_0, .slice A0_1 l0_1.length c0_1]] ?_; (with_reducible refine (spec_l01Is.calls k _ _ l0_0 _ _ l0_1 true _ ?side1 ?side2 ?side3 ?side4 A3.out).mono ?_); (case side1 => exact cb_ HR0_0.out HB.out); (case side2 => exact HC0_0.out); (case side3 => exact cb_ HR0_1.out HB.out); (case side4 => exact HC0_1.out); rintro e w16 ⟨rfl, hb⟩; refine ⟨_, rfl, ?_⟩; have n0_ := Aside0.mk (bb_ BK889.out hb); have n1_ := Aside0.mk (bs_ hb); clear BK889; clear HB; have BK889 := n0_; have HB := n1_; clear n0_ n1_; (try clear hb); (try clear hb2); (try clear hk); (try clear hi); have hcz17_0 : w16.cell? ⟨gb889, 0, none⟩ = some (.slice A0_0 l0_0.length c0_0) := (blk_cell BK889.out 0).trans rfl; have hcz17_1 : w16.cell? ⟨gb889, 1, none⟩ = some (.slice A0_1 l0_1.length c0_1) := (blk_cell BK889.out 1).trans rfl; have hfz17_0 := blk_frozen BK889.out 0; have hfz17_1 := blk_frozen BK889.out 1))
   go_ret
   exact ⟨by first | rfl | (simp [errW_none, errW_some] <;> rfl) | (simp [*, errW_none, errW_some] <;> rfl), hb_⟩
 ·replace c4 := Bool.eq_false_iff.mpr c4
  subst c4
  have H1 : (some 1) = some r := by rw [if_neg (show ¬ (false = true) by decide)] at H; exact H
  clear H
  have H := H1
  clear H1
  obtain rfl := Option.some.inj H
  go_enter Try.func85, Try.ntmps85
  go_wp2_with (first | ((with_reducible refine gate_dst (N := 2) rfl ?_); refine box_event ?hg (N := 2) ?hd (cs := #[.slice A0_0 l0_0.length c0_0, .slice A0_1 l0_1.length c0_1]) (t := 29) ?hr ?_; (case hd => rfl); (case hg => rfl); (case hr => first | (go_simp; done) | (go_simp; rfl)); intro gb889 hg w18 hbox hb; have n0_ := Aside0.mk (bs_ hb); have n1_ := Aside0.mk (hbox); have n2_ := Aside0.mk ((by rw [hg]; exact bz_ : w.heap.size ≤ gb889)); have n3_ := Aside0.mk ((by rw [hg]; exact bz_ : w.heap.size ≤ gb889)); clear HB; have HB := n0_; have BK889 := n1_; have GW889 := n2_; have GE889 := n3_; clear n0_ n1_ n2_ n3_; clear hb hbox hg; have hcz19_0 : w18.cell? ⟨gb889, 0, none⟩ = some (.slice A0_0 l0_0.length c0_0) := (blk_cell BK889.out 0).trans rfl; have hcz19_1 : w18.cell? ⟨gb889, 1, none⟩ = some (.slice A0_1 l0_1.length c0_1) := (blk_cell BK889.out 1).trans rfl; have hfz19_0 := blk_frozen BK889.out 0; have hfz19_1 := blk_frozen BK889.out 1) | ((with_reducible refine gate_callee (f := 66) rfl ?_); refine gL_ 7 Try.func66 #[.agg #[.slice A0_0 l0_0.length c0_0, .slice A0_1 l0_1.length c0_1]] ?_; (with_reducible refine (spec_l01Is.calls k _ _ l0_0 _ _ l0_1 false _ ?side1 ?side2 ?side3 ?side4 A3.out).mono ?_); (case side1 => exact cb_ HR0_0.out HB.out); (case side2 => exact HC0_0.out); (case side3 => exact cb_ HR0_1.out HB.out); (case side4 => exact HC0_1.out); rintro e w20 ⟨rfl, hb⟩; refine ⟨_, rfl, ?_⟩; have n0_ := Aside0.mk (bb_ BK889.out hb); have n1_ := Aside0.mk (bs_ hb); clear BK889; clear HB; have BK889 := n0_; have HB := n1_; clear n0_ n1_; (try clear hb); (try clear hb2); (try clear hk); (try clear hi)))
  go_ret
  exact ⟨by first | rfl | (simp [errW_none, errW_some] <;> rfl) | (simp [*, errW_none, errW_some] <;> rfl), hb_⟩
end Go.Proofs.Ythdoilfjcgickaa.Pr
end
