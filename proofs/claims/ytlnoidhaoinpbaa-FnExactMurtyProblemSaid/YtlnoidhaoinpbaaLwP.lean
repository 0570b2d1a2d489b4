/- The law's mark of a problem (rows of rows beside a row), by hand. -/
import Derived.Test.YtlnoidhaoinpbaaLw
namespace Go.Proofs.Ytlnoidhaoinpbaa.Lw
open Go.RowKit Go.Proofs.YtlnoidhaoinpbaaW.PrintWords Go.Proofs.YtlnoidhaoinpbaaW.PrintLast Go.Proofs.YtlnoidhaoinpbaaW.PrintMore Go.Proofs.Ytlnoidhaoinpbaa.Pr Go.Proofs.Ytlnoidhaoinpbaa.La Go.Proofs.Ytlnoidhaoinpbaa.Ma Go.Proofs.Ytlnoidhaoinpbaa.Hm
set_option linter.unusedVariables false
set_option linter.unusedSimpArgs false
/-- The rows marked, the row beside them kept. -/
theorem UP.step1 {w0 w w' : World} {lo hi : Nat} {v0 v1 : Value} {M M' : List (List Int)} {Q : List Int} (h : UP w0 w lo hi v0 v1 M Q)
    (hS : SS w0 w' (fun k => (lo ≤ k ∧ k < hi) ∧ some k ≠ v1.ownBlock) v0 M') (hK : Kept w w' (fun k => (lo ≤ k ∧ k < hi) ∧ some k ≠ v1.ownBlock)) : UP w0 w' lo hi v0 v1 M' Q :=
  ⟨hS, Kd.R_mono (Kd.R_step (Kd.R_tight (d := Kd.int .i64) rfl h.q) (fun k hk hlt => hK.2 k hlt (fun ho => ho.2 hk))) (fun k hk => h.q.1 k hk.symm)⟩
/-- The row marked, the rows beside it kept. -/
theorem UP.step2 {w0 w w' : World} {lo hi : Nat} {v0 v1 : Value} {M : List (List Int)} {Q Q' : List Int} (h : UP w0 w lo hi v0 v1 M Q) {ok' : Nat → Prop}
    (hR : Kd.R (Kd.int .i64) 2 w' w0.heap.size ok' v1 Q') (hK : Kept w w' (fun k => some k = v1.ownBlock)) : UP w0 w' lo hi v0 v1 M Q' :=
  ⟨Kd.S_step h.m (fun k hk hlt => hK.2 k hlt hk.2), Kd.R_mono (Kd.R_tight (d := Kd.int .i64) rfl hR) (fun k hk => h.q.1 k hk.symm)⟩
set_option maxHeartbeats 1000000 in
theorem mark_UP {w0 w : World} {lo hi : Nat} (A0 : Option Addr) (c0 : Nat) (A1 : Option Addr) (c1 : Nat) (M : List (List Int)) (Q : List Int) (n m : Int) (hB : Below w0.heap.size w0 w) (h : UP w0 w lo hi (.slice A0 M.length c0) (.slice A1 Q.length c1) M Q) (h0 : 0 ≤ n)
    (h1 : n + lens M + Q.length ≤ 1099511627776) (hl : M.length ≤ 1099511627776) (hm : m = n + lens M + Q.length) (hhi : hi ≤ w.heap.size) :
    Calls Try.prog 45 #[.agg #[.slice A0 M.length c0, .slice A1 Q.length c1], .int .i64 n] w fun e w' => e = .returned (.int .i64 m) ∧ UP w0 w' lo hi (.slice A0 M.length c0) (.slice A1 Q.length c1) (marks M n) (count (n + lens M) Q.length) ∧ Below w0.heap.size w0 w' ∧ Frm w w' lo hi := by
  have HB := Aside0.mk hB
  have HU := Aside0.mk h
  have H0 := Aside0.mk h0
  have H1 := Aside0.mk h1
  have HL := Aside0.mk hl
  have HM := Aside0.mk hm
  have HF := Aside0.mk (show Kept w w (fun k => lo ≤ k ∧ k < hi) from Kept.refl _ _)
  obtain ⟨n1, hn1⟩ : ∃ x, x = n + lens M := ⟨_, rfl⟩
  have HN := Aside0.mk hn1
  have HHI := Aside0.mk hhi
  obtain ⟨kq, hkq⟩ := mark_k Q n1 (by omega) (by omega) (by omega)
  rw [show n1 + (Q.length : Int) = m from by rw [hn1, hm]] at hkq
  have HKQ := Aside0.mk hkq
  clear hB h h0 h1 hl hm hn1 hhi hkq
  go_enter Try.func45, Try.ntmps45
  go_wp2_with (first | ((with_reducible refine gate_dst (N := 2) rfl ?_); refine box_event ?hg (N := 2) ?hd (cs := #[.slice A0 M.length c0, .slice A1 Q.length c1]) (t := 55) ?hr ?_; (case hd => rfl); (case hg => rfl); (case hr => first | (go_simp; done) | (go_simp; rfl)); intro gb hg w1 hbox hb; have n0 := Aside0.mk (HU.out.mvB (Frm.below hb)); have n1 := Aside0.mk (below_then HB.out HB.out.size hb); have n2 := Aside0.mk (HF.out.below hb); have BK := Aside0.mk hbox; have HG := Aside0.mk (show hi ≤ gb by rw [hg]; exact HHI.out); clear HU HB HF hb hbox hg; have HU := n0; have HB := n1; have HF := n2; clear n0 n1 n2; have hc0 : w1.cell? ⟨gb, 0, none⟩ = some (.slice A0 M.length c0) := (blk_cell BK.out 0).trans rfl; have hc1 : w1.cell? ⟨gb, 1, none⟩ = some (.slice A1 Q.length c1) := (blk_cell BK.out 1).trans rfl) | ((with_reducible refine gate_callee (f := 69) rfl ?_); refine goesL_ (some 8) rfl rfl Try.func69 (by kernel_rfl) rfl #[.slice A0 M.length c0, .int .i64 n] rfl (by (try simp only [List.map_toArray, List.map_cons, List.map_nil]); first | done | rfl) ?_; refine (markSS _ M n HB.out HU.out.m H0.out (by have := H1.out; omega) HL.out).mono ?_; rintro e w2 ⟨rfl, hS, hB', hK⟩; rw [← HN.out]; refine ⟨_, rfl, ?_⟩; have n0 := Aside0.mk (HU.out.step1 hS hK); have n1 := Aside0.mk hB'; have n2 := Aside0.mk (HF.out.then_ hK (fun k hk => .inl hk.1)); have n3 := Aside0.mk ((hK.2 gb (blk_lt BK.out) (fun ho => by have := HG.out; have := ho.1; omega)).trans BK.out); clear HU HB HF BK hS hB' hK hc0 hc1; have HU := n0; have HB := n1; have HF := n2; have BK := n3; clear n0 n1 n2 n3; have hc0 : w2.cell? ⟨gb, 0, none⟩ = some (.slice A0 M.length c0) := (blk_cell BK.out 0).trans rfl; have hc1 : w2.cell? ⟨gb, 1, none⟩ = some (.slice A1 Q.length c1) := (blk_cell BK.out 1).trans rfl) | ((with_reducible refine gate_callee (f := 28) rfl ?_); refine goesL_ (some 12) rfl rfl Try.func28 (by kernel_rfl) rfl #[.slice A1 Q.length c1, .int .i64 n1] rfl (by (try simp only [List.map_toArray, List.map_cons, List.map_nil]); first | done | rfl) ?_; refine (laws_markInt64S.calls kq (fun b => some b = (Value.slice A1 Q.length c1).ownBlock) (.slice A1 Q.length c1) Q n1 _ _ w0 _ HB.out (Kd.R_tight (d := Kd.int .i64) rfl HU.out.q) HKQ.out).mono ?_; rintro e w3 ⟨rfl, hR, hB', hK⟩; refine ⟨_, rfl, ?_⟩; have n0 := Aside0.mk (HU.out.step2 hR hK); have n1_ := Aside0.mk hB'; have n2 := Aside0.mk (HF.out.then_ hK (fun k hk => .inl (HU.out.q.1 k hk.symm))); clear HU HB HF hR hB' hK hc0 hc1; have HU := n0; have HB := n1_; have HF := n2; clear n0 n1_ n2))
  go_ret
  rw [← HN.out]
  exact ⟨rfl, HU.out, HB.out, Frm.kept HF.out (fun _ hk => hk)⟩
end Go.Proofs.Ytlnoidhaoinpbaa.Lw
