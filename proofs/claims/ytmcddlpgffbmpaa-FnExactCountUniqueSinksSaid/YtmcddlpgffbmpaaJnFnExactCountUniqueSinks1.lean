/- Texts of one claim (the words of the kit's print that the claim uses, printed functions, and this session's own texts), joined in the order of their imports by this session's own program (merge.py). -/
import Derived.Laws.CopyRow
import Derived.Laws.IdiomCopy
import Derived.SizedLaws
import Derived.ChangeSlices
import Derived.Deep.Slices
import Derived.Deep.Fields
import Derived.Lib.SmallJoins
import Derived.Test.YtmcddlpgffbmpaaRows
import Derived.WalkKit
import Derived.ProofKit
import Derived.OpenShut
import Derived.ShutString
import Derived.ChangeOld
import Derived.Below
import Derived.Test.YtmcddlpgffbmpaaJnFnExactCountUniqueSinks0
set_option linter.unusedVariables false
set_option linter.unusedSimpArgs false
set_option maxHeartbeats 8000000
set_option maxRecDepth 100000
section
namespace Go.Proofs.Ytmcddlpgffbmpaa.Cu
open Go.RowKit Go.Proofs.YtmcddlpgffbmpaaW.PrintWords Go.Proofs.YtmcddlpgffbmpaaW.PrintLast Go.Proofs.YtmcddlpgffbmpaaW.PrintMore Go.Proofs.Ytmcddlpgffbmpaa.Ma Go.Proofs.Ytmcddlpgffbmpaa.Pr Go.Proofs.Ytmcddlpgffbmpaa.Us
theorem run_clear {P:Program} (w:World) (dT ty elem:TypeId) (g n c:Nat) (hu:P.underlying dT=some (.slice elem)) (i:TypeInfo) (hi:P.info? elem=some i) (hz:i.zero=some (.int .i64 0)) (hn:0 < n)
  (hc: ∀j,j < n→(w.cell? ⟨g,j,none⟩).isSome=true) (hf: ∀j,j < n→w.frozen? ⟨g,j,none⟩=false):
  (Builtin.clear_ #[dT] ty #[.slice (some ⟨g,0,none⟩) n c]).run P w= .ok (.tuple #[]) (w.setCells g 0 (List.replicate n (.int .i64 0))):=by
 have e:(Builtin.zeroCells (Value.int IntKind.i64 0).cells n).toList=List.replicate n (Value.int .i64 0):=by
  apply List.ext_getElem
  ·simp [Builtin.zeroCells,Value.cells,Nat.mod_one]
  ·intro k h1 h2
   simp [Builtin.zeroCells,Value.cells,Nat.mod_one]
 have hst:=run_storeCells_cells (P:=P) g 0 (List.replicate n (Value.int .i64 0)) 0 w (fun j hj=>by simpa using hc j (by simpa using hj)) (fun j hj=>by simpa using hf j (by simpa using hj)) (fun v hv=>by rw [List.eq_of_mem_replicate hv];rfl)
 obtain⟨m,rfl⟩: ∃m,n=m+1:=⟨n - 1,by omega⟩
 simp [Builtin.clear_,run_underlying hu,zeroValue,typeInfo,hi,hz,e,hst,Result.andThen]
theorem wpList_clear {P:Program} {w:World} {ops:Array Oper} {rest:List Oper} {o:Oper} {a:Act} {Q:Exit→Act→World→Prop} (hgd:o.guard=none) (d:Operand) (dT:TypeId)
    (ho:o.op= .call { callee:= .builtin .clear,args:= #[d],argTypes:= #[dT]}) (elem:TypeId) (g n c:Nat) (hu:P.underlying dT=some (.slice elem)) (hinfo:(P.info? elem).map (fun i=>(i.zero,i.size,i.bytes))=some (some (.int .i64 0),1,8)) (hn:0 < n)
    (hd:a.eval d= .slice (some ⟨g,0,none⟩) n c)
    (hc: ∀j,j < n→(w.cell? ⟨g,j,none⟩).isSome=true) (hf: ∀j,j < n→w.frozen? ⟨g,j,none⟩=false)
    (h: ∀w1,w1=w.setCells g 0 (List.replicate n (.int .i64 0))→wpList P ops Q rest (a.put o.dst (.tuple #[])) w1):wpList P ops Q (o::rest) a w:=by
  refine wpList_plain hgd fun K hK=>?_
  obtain⟨i,hi,hii⟩:=Option.map_eq_some_iff.1 hinfo
  have hz:i.zero=some (.int .i64 0):=congrArg (·.1) hii
  have hrun:=run_clear (P:=P) w dT o.type elem g n c hu i hi hz hn hc hf
  unfold Oper.wp
  simp [execOp,ho,resolve,invoke,builtin,hd,hrun,Result.andThen]
  exact hK _ _ (h _ rfl)
def kE:Kd (Nat × Nat):=Kd.iso (Kd.pair (Kd.int .i64) (Kd.int .i64)) (fun x:Nat × Nat=>((x.1:Int),(x.2:Int)))
theorem kE_open {w:World} {x:Nat × Nat} {cs:List Value} (h:kE.K w x cs):cs= [.int .i64 (x.1:Int), .int .i64 (x.2:Int)]:=by
 obtain⟨_,_,rfl,rfl,rfl⟩:=h
 exact rfl
theorem kE_mkM (w:World) (base:Nat) (ok:Nat→Prop) (x:Nat × Nat):kE.M w base ok x [.int .i64 (x.1:Int), .int .i64 (x.2:Int)]:=⟨[.int .i64 (x.1:Int)], [.int .i64 (x.2:Int)],rfl,rfl,rfl⟩
theorem at_E {w:World} {A:Option Addr} {n:Nat} {xs:List (Nat × Nat)} (h:Kd.C kE w A n xs) (i:Nat) (h1:i < n): ∃ad,A=some ad∧w.cell? (ad.add (i*2))=some (.int .i64 ((xs.getD i (0,0)).1:Int))∧w.cell? ⟨(ad.add (i*2)).block,(ad.add (i*2)).off+1,none⟩=some (.int .i64 ((xs.getD i (0,0)).2:Int)):=by
 obtain⟨ad,c,e,_,hK,hc0⟩:=Kd.C_get h (0,0) (i:Int) (by omega) (by omega)
 have hc: ∀j u,c[j]?=some u→w.cell? (ad.add (i*2+j))=some u:=hc0
 obtain rfl:=kE_open hK
 exact⟨ad,e,hc 0 _ rfl,by rw [← add_field _ _ 1 (by omega)];exact hc 1 _ rfl⟩
theorem clear_R {w0 w:World} {base g n c B:Nat} {ok:Nat→Prop} {xs:List Int} (h:Kd.R (Kd.int .i64) 2 w base ok (.slice (some ⟨g,0,none⟩) n c) xs) (hb:Below B w0 w) (hB:B≤g):
  Kd.R (Kd.int .i64) 2 (w.setCells g 0 (List.replicate n (.int .i64 0))) base ok (.slice (some ⟨g,0,none⟩) n c) (List.replicate n 0)∧Below B w0 (w.setCells g 0 (List.replicate n (.int .i64 0))):=by
 have key: ∀q o (w:World) (xs:List Int),Kd.R (Kd.int .i64) 2 w base ok (.slice (some ⟨g,0,none⟩) n c) xs→Below B w0 w→o+q=n→(∀j,j < o→xs.getD j 0=0)→
   ∃ys,Kd.R (Kd.int .i64) 2 (w.setCells g o (List.replicate q (.int .i64 0))) base ok (.slice (some ⟨g,0,none⟩) n c) ys∧Below B w0 (w.setCells g o (List.replicate q (.int .i64 0)))∧ ∀j,j < n→ys.getD j 0=0:=by
  intro q
  induction q with
  | zero=>intro o w xs h hb e hz;exact⟨xs,h,hb,fun j hj=>hz j (by omega)⟩
  | succ q ih=>
   intro o w xs h hb e hz
   have hl:=(Kd.R_reads' h).1
   have hp:=(Kd.R_putg h (o:Int) 0).1
   rw [Int.toNat_natCast] at hp
   rw [List.replicate_succ]
   refine ih (o+1) (w.setCell ⟨g,o,none⟩ (.int .i64 0)) (xs.set o 0) hp (hb.setCell hB _) (by omega) (fun j hj=>?_)
   by_cases c:j=o
   ·subst c;simp [List.getD_eq_getElem?_getD];by_cases d:j < xs.length <;> simp [d]
   ·have:=hz j (by omega)
    rw [List.getD_eq_getElem?_getD] at this ⊢
    rw [List.getElem?_set_ne (fun h=>c h.symm)]
    exact this
 obtain⟨ys,h1,h2,h3⟩:=key n 0 w xs h hb (by omega) (fun j hj=>by omega)
 have hl:=(Kd.R_reads' h1).1
 have:ys=List.replicate n 0:=by
  apply List.ext_getElem
  ·simp [hl]
  ·intro k a b
   have:=h3 k (by omega)
   rw [List.getD_eq_getElem?_getD,List.getElem?_eq_getElem a] at this
   simpa using this
 rw [this] at h1
 exact⟨h1,h2⟩
theorem clear_cell {g g2 i:Nat} (hne:g2≠g): ∀(q o:Nat) (w:World),(w.setCells g o (List.replicate q (.int .i64 0))).cell? ⟨g2,i,none⟩=w.cell? ⟨g2,i,none⟩:=by
 intro q
 induction q with
 | zero=>intro o w;rfl
 | succ q ih=>
  intro o w
  rw [List.replicate_succ]
  exact(ih (o+1) _).trans (cell_far (p:=⟨g,o,none⟩) hne _)
theorem clear_far {α:Type} {d:Kd α} {e base g:Nat} {ok:Nat→Prop} {v:Value} {xs:List α} (hok: ∀k,ok k→k≠g): ∀(q o:Nat) (w:World),d.R e w base ok v xs→d.R e (w.setCells g o (List.replicate q (.int .i64 0))) base ok v xs:=by
 intro q
 induction q with
 | zero=>intro o w h;exact h
 | succ q ih=>
  intro o w h
  rw [List.replicate_succ]
  exact ih (o+1) _ (Kd.R_far h (p:=⟨g,o,none⟩) hok _)
theorem shl_two {n:Nat} (h:n≤12):wrap64 (2 ^ min n 64)=((2 ^ n:Nat):Int):=by
 have hp:2 ^ n≤2 ^ 12:=Nat.pow_le_pow_right (by decide) h
 have e:(2:Int) ^ n=((2 ^ n:Nat):Int):=by rw [Int.natCast_pow];rfl
 rw [Nat.min_eq_left (by omega),e]
 generalize 2 ^ n=p at hp
 rw [w64 (by omega) (by omega)]
end Go.Proofs.Ytmcddlpgffbmpaa.Cu
namespace Go.Proofs.Ytmcddlpgffbmpaa.Pr
open Go.RowKit Go.Proofs.YtmcddlpgffbmpaaW.PrintWords Go.Proofs.YtmcddlpgffbmpaaW.PrintLast Go.Proofs.YtmcddlpgffbmpaaW.PrintMore Go.Proofs.Ytmcddlpgffbmpaa.Ma Go.Proofs.Ytmcddlpgffbmpaa.Us Go.Proofs.Ytmcddlpgffbmpaa.Cu
theorem infoE:(Try.prog.info? 47).map (fun i=>(i.zero,i.size,i.bytes))=some (some (.agg #[.int .i64 0, .int .i64 0]),2,16):=by kernel_rfl
noncomputable def impl_CountUniqueSinks.f (a0:Int):Option (Int × Int):=some (cusR a0)
theorem impl_CountUniqueSinks.calls (a0:Int) (r1:Int) (r2:Int) (w:World) (h:impl_CountUniqueSinks.f a0=some (r1,r2)):
  Calls Try.prog 6 #[.int .i64 a0] w fun e w'=>e= .returned (.tuple #[.int .i64 r1, .int .i64 r2])∧Below w.heap.size w w':=by
 unfold impl_CountUniqueSinks.f cusR at h
 have HB:=q_ (Below.refl w.heap.size w)
 by_cases hn:1≤a0∧a0≤3
 ·rw [if_pos hn] at h
  obtain⟨n,rfl⟩:=Int.eq_ofNat_of_zero_le (show 0≤a0 by omega)
  rw [Int.toNat_natCast] at h
  injection h with h
  injection h with e1 e2
  subst e2
  have HR:=q_ e1
  have HN1:=q_ (show 1≤n by omega)
  have HN3:=q_ (show n≤3 by omega)
  have HWI:=q_ (show impl_within.f (n:Int) 1 3=some true by rw [iwithin_eq,decide_eq_true hn])
  have hs:wrap64 (2 ^ min n 64)=((2 ^ n:Nat):Int):=shl_two (by omega)
  have h0:(0:Int)≤(n:Int):=by omega
  obtain⟨m,hm⟩: ∃m,2 ^ n=m:=⟨_,rfl⟩
  have hm8:m≤8:=by rw [← hm];exact Nat.pow_le_pow_right (n:=2) (by decide) (show n≤3 by omega)
  have hm0:0 < m:=by rw [← hm];exact Nat.pow_pos (by decide)
  rw [hm] at hs
  have HM:=q_ hm
  have HM8:=q_ hm8
  have HM0:=q_ hm0
  have h0m:(0:Int)≤(m:Int):=by omega
  clear e1 hn hm hm8 hm0
  go_enter Try.func6,Try.ntmps6
  go_wp2_with fail
  refine(impl_within.calls (n:Int) 1 3 true _ HWI.out).mono ?_
  rintro e w1 ⟨rfl,hd⟩
  replace HB:=q_ (below_step HB.out (Al.drawn_below hd))
  have HBS:=q_ HB.out.size
  clear hd
  go_wp2_with (first | ((with_reducible refine gate_dst (N:=19) rfl ?_);refine Kd.R_make (Kd.int .i64) _ 2 rfl (N:=19) rfl 29 _ _ rfl (wrap64 (2 ^ min n 64)) rfl rfl Try.underlying29 (.int .i64 0) 8 info2 rfl (by decide) (by omega) 0 (ok:=fun _=>True) (okp:=fun _=>True) rfl (fun _ hk=>hk) trivial (by rw [hs];omega) (by rw [hs];have:=HM8.out;omega) (Below.refl _ _) (Nat.le_refl _) ?_;intro v19 w2 ho hb hg_ hnew_;(rw [hs,Int.toNat_natCast] at ho);(obtain⟨go,co,rfl,hgo1,hgo2,cells,hbc⟩:=Kd.R_form ho (by have:=HM0.out;simp;omega));have aa:=q_ ho;have HBM:=q_ hb;have GO1:=q_ hgo1;have GO2:=q_ hgo2;clear ho hb hg_ hnew_ hgo1 hgo2 hbc;(simp only [List.length_replicate] at aa ⊢)) | ((with_reducible refine gate_dst (N:=4) rfl ?_);refine box_event ?hg (N:=4) ?hd (cs:= #[.int .i64 0, .slice none 0 0]) (t:=42) ?hr ?_;(case hd=>rfl);(case hg=>rfl);(case hr=>first | (go_simp;done) | (go_simp;rfl));intro g4 hg w3 hbox hb;have B4:=q_ hbox;have G4:=q_ (show w2.heap.size≤g4 by rw [hg];exact Nat.le_refl _);have HB4:=q_ hb;have hx0:=cz_ B4 0;have hx1:=cz_ B4 1;have fx0:=blk_frozen hbox 0;have fx1:=blk_frozen hbox 1;clear hg hbox hb) | ((with_reducible refine gate_store (t:=42) (p:=4) rfl ?_);refine store_event (t:=42) (p:=4) (v:=?vo4) (w1:=(w3.setCell ⟨g4,0,none⟩ (.int .i64 (n:Int))).setCell ⟨g4,1,none⟩ (.slice (some ⟨go,0,none⟩) m co)) ?hg ?ho ?hn ?hr ?_;(case ho=>rfl);(case hg=>rfl);(case hn=>rfl);(case hr=>first | (go_simp;done) | (go_simp;rfl));intro w4 hw;have hs_:Below w2.heap.size w2 w4:=(by rw [hw];exact below_set (below_set HB4.out G4.out) G4.out);replace B4:=q_ (show w4.heap[g4]?=some (.cells #[.int .i64 (n:Int), .slice (some ⟨go,0,none⟩) m co] 42 (0,0)) by rw [hw];exact blk_put (blk_put B4.out 0 _ rfl) 1 _ rfl);replace aa:=q_ (Kd.R_below aa.out hs_);replace HB:=q_ (below_then (below_then HB.out HB.out.size HBM.out) (Nat.le_trans HB.out.size HBM.out.size) hs_);have LW4:=q_ (Nat.lt_of_lt_of_le GO2.out hs_.size);clear hs_ hw hx0 hx1 fx0 fx1 HB4))
  have G4L:=q_ (blk_lt B4.out)
  have NE4:Aside0 (g4≠go):=⟨by have:=G4.out;have:=GO2.out;omega⟩
  have GOW:Aside0 (w.heap.size≤go):=⟨Nat.le_trans HBS.out GO1.out⟩
  have HE:Aside0 (Kd.R kE 47 w4 w4.heap.size (fun _=>True) (.slice none 0 0) (edO n 0)):=⟨Kd.R_nil _ _ _ _ _⟩
  have HB3:Aside0 (Below w4.heap.size w4 w4):=⟨Below.refl _ _⟩
  rw [hs]
  clear hs
  go_loopg [5,23] m (fun gg v5 v23 wr=> ∃v:Nat,v≤m∧m - v≤gg∧v23= .int .i64 (v:Int)∧Aside0 (Kd.R kE 47 wr w4.heap.size (fun _=>True) v5 (edO n v))∧Aside0 (Below w4.heap.size w4 wr))
  case atStart=>exact⟨0,Nat.zero_le _,by omega,rfl,HE,HB3⟩
  case round=>
   clear HE HB3
   obtain⟨v,hv,hg,rfl,HE,HB3⟩:=hrel
   obtain⟨A5,c5,e5⟩:=Kd.R_slice HE.out
   by_cases hlt:v < m
   ·have hltz:(v:Int) < (m:Int):=by omega
    have hwv:wrap64 ((v:Int)+1)=((v+1:Nat):Int):=by rw [w64 (by omega) (by have:=HM8.out;omega)];rfl
    have HG:=q_ hg
    have HLT:=q_ hlt
    have HWV:=q_ hwv
    subst e5
    have HE2:Aside0 (Kd.R kE 47 wr w4.heap.size (fun _=>True) (.slice A5 (edO n v).length c5) (edO n v++edI v 0)):=⟨by unfold edI;rw [List.append_nil];exact HE.out⟩
    clear hv hg hlt hwv HE
    go_wp2
    go_loopg [5,27] n (fun gg v5 v27 wr2=> ∃i:Nat,i≤n∧n - i≤gg∧v27= .int .i64 (i:Int)∧Aside0 (Kd.R kE 47 wr2 w4.heap.size (fun _=>True) v5 (edO n v++edI v i))∧Aside0 (Below w4.heap.size w4 wr2))
    case atStart=>exact⟨0,Nat.zero_le _,by omega,rfl,HE2,HB3⟩
    case round=>
     clear HE2 HB3
     obtain⟨i,hi,hg,rfl,HE,HB3⟩:=hrel
     obtain⟨A5,c5,e5⟩:=Kd.R_slice HE.out
     obtain⟨L,hL⟩: ∃L,(edO n v++edI v i).length=L:=⟨_,rfl⟩
     rw [hL] at e5
     have HL:=q_ hL
     clear hL
     by_cases hlt:i < n
     ·have hlti:(i:Int) < (n:Int):=by omega
      have hwi:IntKind.i64.wrap ((i:Int)+1)=((i+1:Nat):Int):=by rw [IntWalk.i64_in _ (by have:=HN3.out;omega)];rfl
      have HGI:=q_ hg
      have HLI:=q_ hlt
      have HAS:Aside0 (impl_has.f (v:Int) (i:Int)=some (v.testBit i)):=⟨by rw [has_eq _ (by have:=HN3.out;omega),bB_nat _ _ (by have:=HN3.out;omega)]⟩
      have HLEN:Aside0 ((edO n v++edI v i).length≤1000):=⟨by
       have h1:=edO_len n v
       have h2:=edI_len v i
       have h3:v*n≤8*3:=Nat.mul_le_mul (by have:=HLT.out;have:=HM8.out;omega) HN3.out
       have:=HN3.out
       rw [List.length_append]
       omega⟩
      clear hi hg hlt
      subst e5
      go_wp2_with fail
      refine(impl_has.calls (v:Int) (i:Int) (v.testBit i) _ HAS.out).mono ?_
      rintro e w6 ⟨rfl,hd⟩
      have hb:=Al.drawn_below hd
      replace HE:=q_ (Kd.R_below HE.out hb)
      replace HB3:=q_ (below_step HB3.out hb)
      clear hd hb
      by_cases hbit:v.testBit i=true
      ·rw [hbit]
       go_wp2
       go_roundg (n - (i+1))
       case measure=>have:=HGI.out;have:=HLI.out;omega
       case rel=>exact⟨i+1,HLI.out,by omega,by first | rfl | (rw [hwi]) | (simp [hwi]),⟨by unfold edI;rw [if_pos hbit];exact HE.out⟩,HB3⟩
      ·have hbf:v.testBit i=false:=by simpa using hbit
       rw [hbf]
       go_wp2_with (first | ((with_reducible refine gate_builtin (b:= .append) (xs:= #[.tmp 34, .tmp 38]) rfl ?_);at_builtin;refine Kd.R_append kE (w0:=w4) w4.heap.size rfl (.tmp 34) (.tmp 38) 44 47 (.agg #[.int .i64 0, .int .i64 0]) 16 rfl Try.underlying44 infoE rfl (by decide) (by omega) (.slice A5 L c5) (edO n v++edI v i) (v,i) [.int .i64 (v:Int), .int .i64 (i:Int)] (fun _=>True) (fun _=>False) rfl rfl (kE_mkM _ _ _ (v,i)) (fun _ hk=>hk.elim) (fun _ _=>trivial) HE.out HB3.out HB3.out.size ?aL ?_;(case aL=>have:=HLEN.out;omega);intro v39 w7 ho hb hg_ hat;replace HE:=q_ ho;replace HB3:=q_ hb;clear ho hb hg_ hat))
       go_roundg (n - (i+1))
       case measure=>have:=HGI.out;have:=HLI.out;omega
       case rel=>exact⟨i+1,HLI.out,by omega,by first | rfl | (rw [hwi]) | (simp [hwi]),⟨by unfold edI;rw [if_neg hbit, ← List.append_assoc];exact HE.out⟩,HB3⟩
     ·have hlti: ¬ (i:Int) < (n:Int):=by omega
      obtain rfl:n=i:=by omega
      clear hi hg hlt
      subst e5
      go_wp2
      go_roundg (m - (v+1))
      case measure=>have:=HG.out;have:=HLT.out;omega
      case rel=>exact⟨v+1,HLT.out,by omega,by first | rfl | exact congrArg (Value.int .i64) HWV.out,HE,HB3⟩
   ·have hltz: ¬ (v:Int) < (m:Int):=by omega
    obtain rfl:m=v:=by omega
    clear hv hg hlt
    subst e5
    have HE2:Aside0 (Kd.R kE 47 wr w4.heap.size (fun k=>w4.heap.size≤k) (.slice A5 (edE n).length c5) (edE n)):=⟨by
     have h:=HE.out
     unfold edE
     rw [← HM.out] at h
     exact Kd.R_mono (Kd.R_tight rfl h) (fun k hk=>Kd.R_base h k hk.symm)⟩
    have HO:Aside0 (∃xs:List Int,Kd.R (Kd.int .i64) 2 wr w1.heap.size (fun _=>True) (.slice (some ⟨go,0,none⟩) m co) xs):=⟨⟨_,Kd.R_below aa.out HB3.out⟩⟩
    have HC4:Aside0 (wr.cell? ⟨g4,0,none⟩=some (.int .i64 (n:Int))∧wr.cell? ⟨g4,1,none⟩=some (.slice (some ⟨go,0,none⟩) m co)):=⟨⟨cz_ (q_ (bb_ B4.out HB3.out)) 0,cz_ (q_ (bb_ B4.out HB3.out)) 1⟩⟩
    have HBW:Aside0 (Below w.heap.size w wr):=⟨below_then HB.out HB.out.size HB3.out⟩
    have hl12:=edE_len HN1.out HN3.out
    have hfull:=full HN1.out HN3.out
    obtain⟨E,hE⟩: ∃E,edE n=E:=⟨_,rfl⟩
    have hE2:edO n m=E:=by rw [← hE, ← HM.out];rfl
    have hok: ∀c,CubeOK n (outL m (outN E c E.length)):=fun c=>by rw [← hE, ← HM.out];exact out_ok HN1.out HN3.out c
    rw [hE] at HE2 HR hl12 hfull
    obtain⟨L,hL⟩: ∃L,E.length=L:=⟨_,rfl⟩
    rw [hL] at HE2 HR hl12
    rw [hE2,hL]
    have HL12:=q_ hl12
    have HFU:=q_ hfull
    have HOK:=q_ hok
    have HEL:=q_ hL
    have HEE:=q_ hE
    have hs2:wrap64 (2 ^ min L 64)=((2 ^ L:Nat):Int):=shl_two hl12
    obtain⟨M2,hM2⟩: ∃M2,2 ^ L=M2:=⟨_,rfl⟩
    have HM2:Aside0 (M2≤4096):=⟨by rw [← hM2];exact Nat.pow_le_pow_right (n:=2) (by decide) hl12⟩
    rw [hM2] at hs2 HR
    clear hM2 hok hE2 hE hfull hl12 hL HE HB3 aa B4 HB hltz
    go_wp2
    rw [hs2]
    clear hs2
    go_loopg [8,45] M2 (fun gg v8 v45 wr=> ∃c:Nat,c≤M2∧M2 - c≤gg∧v45= .int .i64 (c:Int)∧v8= .int .i64 (cntU n c)∧Aside0 (∃xs:List Int,Kd.R (Kd.int .i64) 2 wr w1.heap.size (fun _=>True) (.slice (some ⟨go,0,none⟩) m co) xs)∧Aside0 (Kd.R kE 47 wr w4.heap.size (fun k=>w4.heap.size≤k) (.slice A5 L c5) E)∧Aside0 (wr.cell? ⟨g4,0,none⟩=some (.int .i64 (n:Int))∧wr.cell? ⟨g4,1,none⟩=some (.slice (some ⟨go,0,none⟩) m co))∧Aside0 (Below w.heap.size w wr))
    case atStart=>exact⟨0,Nat.zero_le _,by omega,rfl,rfl,HO,HE2,HC4,HBW⟩
    case round=>
     clear HO HE2 HC4 HBW
     obtain⟨c,hc,hg,rfl,rfl,HO,HE,HC4,HBW⟩:=hrel
     by_cases hlt:c < M2
     ·have hltz:(c:Int) < (M2:Int):=by omega
      have hwc:wrap64 ((c:Int)+1)=((c+1:Nat):Int):=by rw [w64 (by omega) (by have:=HM2.out;omega)];rfl
      have HG:=q_ hg
      have HLT:=q_ hlt
      have HWC:=q_ hwc
      have hc4:=HC4.out.2
      obtain⟨xs,hxs⟩:=HO.out
      have HXS:=q_ hxs
      clear hc hg hlt hwc HO hxs
      go_wp2_with (first | ((with_reducible refine gate_builtin (b:= .clear) (xs:= #[.tmp 49]) rfl ?_);refine wpList_clear rfl (.tmp 49) 29 rfl 2 go m co Try.underlying29 info2 HM0.out rfl ?hc ?hf ?_;(case hc=>intro j hj;have q:=(Kd.R_celln 0 HXS.out (j:Int) (by omega) (by omega)).1;rw [Int.toNat_natCast] at q;rw [q];rfl);(case hf=>intro j hj;have q:=(Kd.R_celln 0 HXS.out (j:Int) (by omega) (by omega)).2;rw [Int.toNat_natCast] at q;exact q);intro w6 hw6;have HW6:=q_ hw6;clear hw6 hc4))
      have hcl:=clear_R HXS.out HBW.out GOW.out
      rw [← HW6.out] at hcl
      have HO:Aside0 (Kd.R (Kd.int .i64) 2 w6 w1.heap.size (fun _=>True) (.slice (some ⟨go,0,none⟩) m co) (outL m (outN E c 0))):=⟨by rw [outL_zero];exact hcl.1⟩
      replace HBW:=q_ hcl.2
      have hce:=clear_far (g:=go) (fun q hq=>by have:=LW4.out;have hq':w4.heap.size≤q:=hq;omega) m 0 wr HE.out
      rw [← HW6.out] at hce
      replace HE:=q_ hce
      have hne:=NE4.out
      replace HC4:Aside0 (w6.cell? ⟨g4,0,none⟩=some (.int .i64 (n:Int))∧w6.cell? ⟨g4,1,none⟩=some (.slice (some ⟨go,0,none⟩) m co)):=⟨by rw [HW6.out];exact⟨(clear_cell (i:=0) hne m 0 wr).trans HC4.out.1,(clear_cell (i:=1) hne m 0 wr).trans HC4.out.2⟩⟩
      clear hcl hce hne HXS HW6
      go_loopg [52] L (fun gg v52 wr=> ∃k:Nat,k≤L∧L - k≤gg∧v52= .int .i64 (k:Int)∧Aside0 (Kd.R (Kd.int .i64) 2 wr w1.heap.size (fun _=>True) (.slice (some ⟨go,0,none⟩) m co) (outL m (outN E c k)))∧Aside0 (Kd.R kE 47 wr w4.heap.size (fun k=>w4.heap.size≤k) (.slice A5 L c5) E)∧Aside0 (wr.cell? ⟨g4,0,none⟩=some (.int .i64 (n:Int))∧wr.cell? ⟨g4,1,none⟩=some (.slice (some ⟨go,0,none⟩) m co))∧Aside0 (Below w.heap.size w wr))
      case atStart=>exact⟨0,Nat.zero_le _,by omega,rfl,HO,HE,HC4,HBW⟩
      case round=>
       clear HO HE HC4 HBW
       obtain⟨k,hk,hg,rfl,HO,HE,HC4,HBW⟩:=hrel
       by_cases hlt:k < L
       ·have hlk:(k:Int) < (L:Int):=by omega
        have h0k:(0:Int)≤(k:Int):=by omega
        have hwk:wrap64 ((k:Int)+1)=((k+1:Nat):Int):=by rw [w64 (by omega) (by have:=HL12.out;omega)];rfl
        have HGK:=q_ hg
        have HKL:=q_ hlt
        have hdir:=HFU.out.dir k (by rw [HEL.out];exact hlt)
        obtain⟨v,i,hgk⟩: ∃v i,E.getD k (0,0)=(v,i):=⟨_,_,rfl⟩
        rw [hgk,HM.out] at hdir
        have HGE:=q_ hgk
        have HIN:=q_ hdir.1
        have HVM:=q_ hdir.2
        have hfm:flp c k (E.getD k (0,0)) < m:=by
         rw [hgk, ← HM.out]
         unfold flp
         split
         ·exact flip_lt (by rw [HM.out];exact HVM.out) HIN.out
         ·rw [HM.out];exact HVM.out
        have hlt9: ∀x,outN E c k x < 2 ^ 63:=fun x=>by
         refine Nat.lt_pow_two_of_testBit _ (fun j hj=>?_)
         cases hb:(outN E c k x).testBit j with
         | false=>rfl
         | true=>
          obtain⟨q,a,b,_⟩:=(out_bit _ _ _ _ _).1 hb
          have:=(HFU.out.dir q (by rw [HEL.out];have:=HKL.out;omega)).1
          have:=HN3.out
          omega
        have HLT9:=q_ hlt9
        have HFMK:=q_ hfm
        obtain⟨adE,ea,hxE,hyE⟩:=at_E (Kd.R_reads' HE.out).2.2 k (by rw [HEL.out];exact hlt)
        rw [hgk] at hxE hyE
        clear hk hg hlt hgk hdir hfm hlt9
        cases ea
        have HAS:Aside0 (impl_has.f (c:Int) (k:Int)=some (c.testBit k)):=⟨by rw [has_eq _ (by have:=HKL.out;have:=HL12.out;omega),bB_nat _ _ (by have:=HKL.out;have:=HL12.out;omega)]⟩
        go_wp2_with (first | ((with_reducible refine gate_dst (N:=11) rfl ?_);refine box_event ?hg (N:=11) ?hd (cs:= #[.int .i64 0, .int .i64 0]) (t:=47) ?hr ?_;(case hd=>rfl);(case hg=>rfl);(case hr=>first | (go_simp;done) | (go_simp;rfl));intro g11 hg w7 hbox hb;have B11:=q_ hbox;have G11:=q_ (show wr.heap.size≤g11 by rw [hg];exact Nat.le_refl _);have HB11:=q_ hb;have hx0:=cz_ B11 0;have hx1:=cz_ B11 1;have fx0:=blk_frozen hbox 0;have fx1:=blk_frozen hbox 1;clear hg hbox hb) | ((with_reducible refine gate_store (t:=47) (p:=11) rfl ?_);refine store_event (t:=47) (p:=11) (v:=?vo11) (w1:=(w7.setCell ⟨g11,0,none⟩ (.int .i64 (v:Int))).setCell ⟨g11,1,none⟩ (.int .i64 (i:Int))) ?hg ?ho ?hn ?hr ?_;(case ho=>rfl);(case hg=>rfl);(case hn=>rfl);(case hr=>first | (go_simp;done) | (go_simp;rfl));intro w8 hw;have hs_:Below wr.heap.size wr w8:=(by rw [hw];exact below_set (below_set HB11.out G11.out) G11.out);replace B11:=q_ (show w8.heap[g11]?=some (.cells #[.int .i64 (v:Int), .int .i64 (i:Int)] 47 (0,0)) by rw [hw];exact blk_put (blk_put B11.out 0 _ rfl) 1 _ rfl);have HB8:=q_ hs_;clear hs_ hw hx0 hx1 fx0 fx1 HB11 hxE hyE;have hx0:=cz_ B11 0;have hx1:=cz_ B11 1))
        refine(impl_has.calls (c:Int) (k:Int) (c.testBit k) _ HAS.out).mono ?_
        rintro e w9 ⟨rfl,hd⟩
        have hb:=below_step HB8.out (Al.drawn_below hd)
        replace B11:=q_ (bb_ B11.out (Al.drawn_below hd))
        have HC9:Aside0 (w9.cell? ⟨g4,0,none⟩=some (.int .i64 (n:Int))∧w9.cell? ⟨g4,1,none⟩=some (.slice (some ⟨go,0,none⟩) m co)):=⟨⟨(hb.cell (World.block_lt_of_cell? _ _ HC4.out.1)).trans HC4.out.1,(hb.cell (World.block_lt_of_cell? _ _ HC4.out.2)).trans HC4.out.2⟩⟩
        replace HC4:=HC9
        replace HO:=q_ (Kd.R_below HO.out hb)
        replace HE:=q_ (Kd.R_below HE.out hb)
        replace HBW:=q_ (below_step HBW.out hb)
        clear hd hb HC9 HB8 hx0 hx1 HAS
        have hx1:=cz_ B11 1
        by_cases hbit:c.testBit k=true
        ·rw [hbit]
         have HFL:Aside0 (flp c k (E.getD k (0,0))=v ^^^ 2 ^ i):=⟨by rw [HGE.out];unfold flp;rw [if_pos hbit]⟩
         have HFM:Aside0 (v ^^^ 2 ^ i < m):=⟨by rw [← HFL.out];exact HFMK.out⟩
         have hxor:Go.bits .xor .i64 (v:Int) (wrap64 (2 ^ min i 64))=((v ^^^ 2 ^ i:Nat):Int):=by
          rw [shl_two (by have:=HIN.out;have:=HN3.out;omega)]
          exact xor_nat (by have:=HVM.out;have:=HM8.out;omega) (Nat.pow_lt_pow_right (by decide) (by have:=HIN.out;have:=HN3.out;omega))
         go_wp2
         clear hxor hx1
         generalize v ^^^ 2 ^ i=f at HFL HFM ⊢
         obtain⟨hgf,hff⟩:=Kd.R_celln 0 HO.out (f:Nat) (by omega) (by have:=HFM.out;omega)
         rw [Int.toNat_natCast] at hgf hff
         have hrd:rdOf 0 (outL m (outN E c k)) ((f:Nat):Int)=((outN E c k f:Nat):Int):=by
          show (outL m (outN E c k)).getD ((f:Nat):Int).toNat 0=_
          rw [Int.toNat_natCast,outL_at _ _ HFM.out]
         rw [hrd] at hgf
         have hor:Go.bits .or .i64 ((outN E c k f:Nat):Int) (wrap64 (2 ^ min i 64))=((outN E c k f ||| 2 ^ i:Nat):Int):=by
          rw [shl_two (by have:=HIN.out;have:=HN3.out;omega)]
          exact or_nat (HLT9.out f) (Nat.pow_lt_pow_right (by decide) (by have:=HIN.out;have:=HN3.out;omega))
         have HOR:=q_ hor
         have hfz:((f:Nat):Int) < (m:Int):=by have:=HFM.out;omega
         have hf0:(0:Int)≤((f:Nat):Int):=by omega
         clear hrd hor
         refine st_ (n:=11) (S:=fun w'=>w'.cell? ⟨g4,1,none⟩=some (.slice (some ⟨go,0,none⟩) m co)∧w'.cell? ⟨go,f,none⟩=some (.int .i64 ((outN E c k f:Nat):Int))∧w'.cell? ⟨g11,1,none⟩=some (.int .i64 (i:Int))) (ds:= [10]) ⟨HC4.out.2,hgf,cz_ B11 1⟩ (fun hHeld=>?_)
         have hd_:Below w9.heap.size w9 w9.drew:=below_drew (Below.refl _ _)
         replace HO:=q_ (Kd.R_below HO.out hd_)
         replace HE:=q_ (Kd.R_below HE.out hd_)
         replace HBW:=q_ (below_step HBW.out hd_)
         replace HC4:Aside0 (w9.drew.cell? ⟨g4,0,none⟩=some (.int .i64 (n:Int))∧w9.drew.cell? ⟨g4,1,none⟩=some (.slice (some ⟨go,0,none⟩) m co)):=HC4
         replace hff:w9.drew.frozen? ⟨go,f,none⟩=false:=hff
         clear hd_ hgf B11
         generalize w9.drew=w10 at HO HE HBW HC4 hff hHeld ⊢
         refine pu_ 0 67 ?_;refine tk_ 1 68 ?_;refine pu_ 2 69 ?_;refine pu_ 3 70 ?_;refine tk_ 4 71 ?_;refine pu_ 5 72 ?_;refine tk_ 6 73 ?_;refine pu_ 7 74 ?_;refine pu_ 8 75 ?_;refine pu_ 9 76 ?_
         refine la_ 10 none (fun K hK=>?_)
         refine skip_ (w1:=?_) (by rfl) rfl ?_ ?_
         rotate_left
         ·go_simp
          rfl
         refine hK.out _ _ ?_
         clear hK K
         refine done_ (by kernel_rfl) ?_
         go_wp2
         go_roundg (L - (k+1))
         case measure=>have:=HGK.out;have:=HKL.out;omega
         case rel=>
          have hput:=(Kd.R_putg HO.out ((f:Nat):Int) ((outN E c k f ||| 2 ^ i:Nat):Int)).1
          rw [Int.toNat_natCast,outL_set _ _ HFM.out] at hput
          have hfn:(fun x=>if x=f then outN E c k f ||| 2 ^ i else outN E c k x)=outN E c (k+1):=by
           funext x
           show _=(if x=flp c k (E.getD k (0,0)) then outN E c k x ||| 2 ^ (E.getD k (0,0)).2 else outN E c k x)
           rw [HFL.out,HGE.out]
           by_cases e:x=f
           ·rw [if_pos e,if_pos e,e]
           ·rw [if_neg e,if_neg e]
          rw [hfn] at hput
          have hne:=NE4.out
          refine⟨k+1,HKL.out,by omega,by first | rfl | exact congrArg (Value.int .i64) hwk,⟨by first | exact hput | (rw [HOR.out];exact hput)⟩,⟨Kd.R_far HE.out (p:=⟨go,f,none⟩) (fun q hq=>by show q≠go;have:=LW4.out;have:w4.heap.size≤q:=hq;omega) _⟩,⟨(cell_far (p:=⟨go,f,none⟩) hne _).trans HC4.out.1,(cell_far (p:=⟨go,f,none⟩) hne _).trans HC4.out.2⟩,⟨HBW.out.setCell GOW.out _⟩⟩
        ·have hbf:c.testBit k=false:=by simpa using hbit
         rw [hbf]
         have HFL:Aside0 (flp c k (E.getD k (0,0))=v):=⟨by rw [HGE.out];unfold flp;rw [if_neg hbit]⟩
         have HFM:Aside0 (v < m):=HVM
         go_wp2
         clear hx1
         obtain⟨hgf,hff⟩:=Kd.R_celln 0 HO.out (v:Nat) (by omega) (by have:=HFM.out;omega)
         rw [Int.toNat_natCast] at hgf hff
         have hrd:rdOf 0 (outL m (outN E c k)) ((v:Nat):Int)=((outN E c k v:Nat):Int):=by
          show (outL m (outN E c k)).getD ((v:Nat):Int).toNat 0=_
          rw [Int.toNat_natCast,outL_at _ _ HFM.out]
         rw [hrd] at hgf
         have hor:Go.bits .or .i64 ((outN E c k v:Nat):Int) (wrap64 (2 ^ min i 64))=((outN E c k v ||| 2 ^ i:Nat):Int):=by
          rw [shl_two (by have:=HIN.out;have:=HN3.out;omega)]
          exact or_nat (HLT9.out v) (Nat.pow_lt_pow_right (by decide) (by have:=HIN.out;have:=HN3.out;omega))
         have HOR:=q_ hor
         have hfz:((v:Nat):Int) < (m:Int):=by have:=HFM.out;omega
         have hf0:(0:Int)≤((v:Nat):Int):=by omega
         clear hrd hor
         refine st_ (n:=11) (S:=fun w'=>w'.cell? ⟨g4,1,none⟩=some (.slice (some ⟨go,0,none⟩) m co)∧w'.cell? ⟨go,v,none⟩=some (.int .i64 ((outN E c k v:Nat):Int))∧w'.cell? ⟨g11,1,none⟩=some (.int .i64 (i:Int))) (ds:= [10]) ⟨HC4.out.2,hgf,cz_ B11 1⟩ (fun hHeld=>?_)
         have hd_:Below w9.heap.size w9 w9.drew:=below_drew (Below.refl _ _)
         replace HO:=q_ (Kd.R_below HO.out hd_)
         replace HE:=q_ (Kd.R_below HE.out hd_)
         replace HBW:=q_ (below_step HBW.out hd_)
         replace HC4:Aside0 (w9.drew.cell? ⟨g4,0,none⟩=some (.int .i64 (n:Int))∧w9.drew.cell? ⟨g4,1,none⟩=some (.slice (some ⟨go,0,none⟩) m co)):=HC4
         replace hff:w9.drew.frozen? ⟨go,v,none⟩=false:=hff
         clear hd_ hgf B11
         generalize w9.drew=w10 at HO HE HBW HC4 hff hHeld ⊢
         refine pu_ 0 67 ?_;refine tk_ 1 68 ?_;refine pu_ 2 69 ?_;refine pu_ 3 70 ?_;refine tk_ 4 71 ?_;refine pu_ 5 72 ?_;refine tk_ 6 73 ?_;refine pu_ 7 74 ?_;refine pu_ 8 75 ?_;refine pu_ 9 76 ?_
         refine la_ 10 none (fun K hK=>?_)
         refine skip_ (w1:=?_) (by rfl) rfl ?_ ?_
         rotate_left
         ·go_simp
          rfl
         refine hK.out _ _ ?_
         clear hK K
         refine done_ (by kernel_rfl) ?_
         go_wp2
         go_roundg (L - (k+1))
         case measure=>have:=HGK.out;have:=HKL.out;omega
         case rel=>
          have hput:=(Kd.R_putg HO.out ((v:Nat):Int) ((outN E c k v ||| 2 ^ i:Nat):Int)).1
          rw [Int.toNat_natCast,outL_set _ _ HFM.out] at hput
          have hfn:(fun x=>if x=v then outN E c k v ||| 2 ^ i else outN E c k x)=outN E c (k+1):=by
           funext x
           show _=(if x=flp c k (E.getD k (0,0)) then outN E c k x ||| 2 ^ (E.getD k (0,0)).2 else outN E c k x)
           rw [HFL.out,HGE.out]
           by_cases e:x=v
           ·rw [if_pos e,if_pos e,e]
           ·rw [if_neg e,if_neg e]
          rw [hfn] at hput
          have hne:=NE4.out
          refine⟨k+1,HKL.out,by omega,by first | rfl | exact congrArg (Value.int .i64) hwk,⟨by first | exact hput | (rw [HOR.out];exact hput)⟩,⟨Kd.R_far HE.out (p:=⟨go,v,none⟩) (fun q hq=>by show q≠go;have:=LW4.out;have:w4.heap.size≤q:=hq;omega) _⟩,⟨(cell_far (p:=⟨go,v,none⟩) hne _).trans HC4.out.1,(cell_far (p:=⟨go,v,none⟩) hne _).trans HC4.out.2⟩,⟨HBW.out.setCell GOW.out _⟩⟩
       ·have hlk: ¬ (k:Int) < (L:Int):=by omega
        obtain rfl:L=k:=by omega
        clear hk hg hlt
        have hoc:=HOK.out c
        rw [HEL.out] at hoc
        classical
        obtain⟨kk,hkk⟩:=impl_unique hoc (decide (Pairs (2 ^ n) (sN (outL m (outN E c L))))) (by simp)
        have hcall:=impl_Cube_hasUniqueSinks.calls kk (n:Int) (some ⟨go,0,none⟩) co (outL m (outN E c L)) _ wr (Kd.R_reads' HO.out).2.2 (by rw [outL_len];exact(Kd.R_reads' HO.out).2.1) (hkk kk (Nat.le_refl _))
        rw [outL_len] at hcall
        have HCALL:=q_ hcall
        have hc0:=HC4.out.1
        have hc1:=HC4.out.2
        clear hoc hkk hcall
        go_wp2_with fail
        refine HCALL.out.mono ?_
        rintro e w9 ⟨rfl,hb⟩
        have HC9:Aside0 (w9.cell? ⟨g4,0,none⟩=some (.int .i64 (n:Int))∧w9.cell? ⟨g4,1,none⟩=some (.slice (some ⟨go,0,none⟩) m co)):=⟨⟨(hb.cell (World.block_lt_of_cell? _ _ HC4.out.1)).trans HC4.out.1,(hb.cell (World.block_lt_of_cell? _ _ HC4.out.2)).trans HC4.out.2⟩⟩
        replace HC4:=HC9
        replace HO:=q_ (Kd.R_below HO.out hb)
        replace HE:=q_ (Kd.R_below HE.out hb)
        replace HBW:=q_ (below_step HBW.out hb)
        clear hb HC9 hc0 hc1 HCALL
        have hce:cntU n (c+1)=if Pairs (2 ^ n) (sN (outL m (outN E c L))) then cntU n c+1 else cntU n c:=by
         show (if Pairs (2 ^ n) (sN (outL (2 ^ n) (outN (edE n) c (edE n).length))) then cntU n c+1 else cntU n c)=_
         rw [HEE.out,HEL.out,HM.out]
        have HCE:=q_ hce
        have HCN:=q_ (cntU_le n c)
        clear hce
        by_cases hp:Pairs (2 ^ n) (sN (outL m (outN E c L)))
        ·rw [decide_eq_true hp]
         have hw8:wrap64 (cntU n c+1)=cntU n (c+1):=by rw [HCE.out,if_pos hp,w64 (by have:=HCN.out;omega) (by have:=HCN.out;have:=HLT.out;have:=HM2.out;omega)]
         go_wp2
         go_roundg (M2 - (c+1))
         case measure=>have:=HG.out;have:=HLT.out;omega
         case rel=>exact⟨c+1,HLT.out,by omega,by first | rfl | exact congrArg (Value.int .i64) HWC.out,by first | rfl | exact congrArg (Value.int .i64) hw8,⟨⟨_,HO.out⟩⟩,HE,HC4,HBW⟩
        ·rw [decide_eq_false hp]
         have hw8:cntU n c=cntU n (c+1):=by rw [HCE.out,if_neg hp]
         go_wp2
         go_roundg (M2 - (c+1))
         case measure=>have:=HG.out;have:=HLT.out;omega
         case rel=>exact⟨c+1,HLT.out,by omega,by first | rfl | exact congrArg (Value.int .i64) HWC.out,by first | rfl | exact congrArg (Value.int .i64) hw8,⟨⟨_,HO.out⟩⟩,HE,HC4,HBW⟩
     ·have hltz: ¬ (c:Int) < (M2:Int):=by omega
      obtain rfl:M2=c:=by omega
      clear hc hg hlt
      go_wp2
      go_ret2
      exact⟨by rw [← HR.out];first | done | rfl,HBW.out⟩
 ·rw [if_neg hn] at h
  injection h with h
  injection h with e1 e2
  subst e1 e2
  have HWI:=q_ (show impl_within.f a0 1 3=some false by rw [iwithin_eq,decide_eq_false hn])
  clear hn
  go_enter Try.func6,Try.ntmps6
  go_wp2_with fail
  refine(impl_within.calls a0 1 3 false _ HWI.out).mono ?_
  rintro e w1 ⟨rfl,hd⟩
  replace HB:=q_ (below_step HB.out (Al.drawn_below hd))
  clear hd
  go_wp2
  go_ret2
  exact⟨rfl,HB.out⟩
end Go.Proofs.Ytmcddlpgffbmpaa.Pr
end
section
namespace Go.Proofs.Ytmcddlpgffbmpaa.Pr
open Go.RowKit Go.Proofs.YtmcddlpgffbmpaaW.PrintWords Go.Proofs.YtmcddlpgffbmpaaW.PrintLast Go.Proofs.YtmcddlpgffbmpaaW.PrintMore
attribute [local go_sem] max2_int min2_int max_two min_two max_three min_three max_four min_four
noncomputable def laws_FnExactCountUniqueSinks.f (k:Nat) (a0:Int):Option (Bool):=(spec_CountUniqueSinks.f k a0).bind fun bt175=>((impl_CountUniqueSinks.f a0).bind fun bt177=>(if bt177.1=bt175.1 then(if bt177.2=bt175.2 then(some true) else(some false)) else(some false)))
theorem laws_FnExactCountUniqueSinks.mono: ∀a0 k,LeO (laws_FnExactCountUniqueSinks.f k a0) (laws_FnExactCountUniqueSinks.f (k+1) a0):=by
 intro a0 k
 unfold laws_FnExactCountUniqueSinks.f
 repeat' first
   | (with_reducible exact spec_CountUniqueSinks.mono _ _)
   | (with_reducible exact LeO.refl _)
   | (with_reducible exact LeO.none _)
   | (with_reducible refine LeO.ite ?_ ?_)
   | (with_reducible refine LeO.bind ?_ (fun _=>?_))
   | exact spec_CountUniqueSinks.mono _ _
   | exact LeO.none _
   | refine LeO.ite ?_ ?_
   | refine LeO.bind ?_ (fun _=>?_)
theorem laws_FnExactCountUniqueSinks.calls (k:Nat) (a0:Int) (r:Bool) (w:World) (h:laws_FnExactCountUniqueSinks.f k a0=some r):
  Calls Try.prog 3 #[.int .i64 a0] w fun e w'=>e= .returned (.bool r)∧Below w.heap.size w w':=by
 have HB:=q_ (Below.refl w.heap.size w)
 have H:((spec_CountUniqueSinks.f k a0).bind fun ai=>((impl_CountUniqueSinks.f a0).bind fun ah=>(if ah.1=ai.1 then(if ah.2=ai.2 then(some true) else(some false)) else(some false))))=some r:=h
 clear h
 replace H:=Option.bind_eq_some_iff.mp H
 obtain⟨⟨aa,ae⟩,A20,H⟩:=H
 replace H:((impl_CountUniqueSinks.f a0).bind fun ah=>(if ah.1=aa then(if ah.2=ae then(some true) else(some false)) else(some false)))=some r:=H
 have A2:=q_ A20
 clear A20
 replace H:=Option.bind_eq_some_iff.mp H
 obtain⟨⟨af,ag⟩,A30,H⟩:=H
 replace H:(if af=aa then(if ag=ae then(some true) else(some false)) else(some false))=some r:=H
 have A3:=q_ A30
 clear A30
 by_cases c4:af=aa
 ·rw [if_pos c4] at H
  have c4b0:(af==aa)=true:=beq_iff_eq.mpr c4
  have c4b1:(af !=aa)=false:=bne_eq_false_iff_eq.mpr c4
  clear c4
  by_cases c5:ag=ae
  ·rw [if_pos c5] at H
   have c5b0:(ag==ae)=true:=beq_iff_eq.mpr c5
   have c5b1:(ag !=ae)=false:=bne_eq_false_iff_eq.mpr c5
   clear c5
   obtain rfl:=Option.some.inj H
   go_enter Try.func3,Try.ntmps3
   go_wp2_with (first | ((with_reducible refine gate_callee (f:=5) rfl ?_);refine gL_ 9 Try.func5 #[.int .i64 a0] ?_;(with_reducible refine(spec_CountUniqueSinks.calls k a0 aa ae _ A2.out).mono ?_);rintro e w6 ⟨rfl,hb⟩;refine⟨_,rfl,?_⟩;replace HB:=q_ (bs_ hb);(try clear hb);(try clear hb2);(try clear hk);(try clear hi)) | ((with_reducible refine gate_callee (f:=6) rfl ?_);refine gL_ 14 Try.func6 #[.int .i64 a0] ?_;(with_reducible refine(impl_CountUniqueSinks.calls a0 af ag _ A3.out).mono ?_);rintro e w7 ⟨rfl,hb⟩;refine⟨_,rfl,?_⟩;replace HB:=q_ (bs_ hb);(try clear hb);(try clear hb2);(try clear hk);(try clear hi)))
   go_ret
   exact⟨by first | rfl | (simp [errW_none,errW_some] <;> rfl) | (simp [*,errW_none,errW_some] <;> rfl),hb_⟩
  ·rw [if_neg c5] at H
   have c5b0:(ag==ae)=false:=beq_eq_false_iff_ne.mpr c5
   have c5b1:(ag !=ae)=true:=bne_iff_ne.mpr c5
   obtain rfl:=Option.some.inj H
   go_enter Try.func3,Try.ntmps3
   go_wp2_with (first | ((with_reducible refine gate_callee (f:=5) rfl ?_);refine gL_ 9 Try.func5 #[.int .i64 a0] ?_;(with_reducible refine(spec_CountUniqueSinks.calls k a0 aa ae _ A2.out).mono ?_);rintro e w8 ⟨rfl,hb⟩;refine⟨_,rfl,?_⟩;replace HB:=q_ (bs_ hb);(try clear hb);(try clear hb2);(try clear hk);(try clear hi)) | ((with_reducible refine gate_callee (f:=6) rfl ?_);refine gL_ 14 Try.func6 #[.int .i64 a0] ?_;(with_reducible refine(impl_CountUniqueSinks.calls a0 af ag _ A3.out).mono ?_);rintro e w9 ⟨rfl,hb⟩;refine⟨_,rfl,?_⟩;replace HB:=q_ (bs_ hb);(try clear hb);(try clear hb2);(try clear hk);(try clear hi)))
   go_ret
   exact⟨by first | rfl | (simp [errW_none,errW_some] <;> rfl) | (simp [*,errW_none,errW_some] <;> rfl),hb_⟩
 ·rw [if_neg c4] at H
  have c4b0:(af==aa)=false:=beq_eq_false_iff_ne.mpr c4
  have c4b1:(af !=aa)=true:=bne_iff_ne.mpr c4
  obtain rfl:=Option.some.inj H
  go_enter Try.func3,Try.ntmps3
  go_wp2_with (first | ((with_reducible refine gate_callee (f:=5) rfl ?_);refine gL_ 9 Try.func5 #[.int .i64 a0] ?_;(with_reducible refine(spec_CountUniqueSinks.calls k a0 aa ae _ A2.out).mono ?_);rintro e w10 ⟨rfl,hb⟩;refine⟨_,rfl,?_⟩;replace HB:=q_ (bs_ hb);(try clear hb);(try clear hb2);(try clear hk);(try clear hi)) | ((with_reducible refine gate_callee (f:=6) rfl ?_);refine gL_ 14 Try.func6 #[.int .i64 a0] ?_;(with_reducible refine(impl_CountUniqueSinks.calls a0 af ag _ A3.out).mono ?_);rintro e w11 ⟨rfl,hb⟩;refine⟨_,rfl,?_⟩;replace HB:=q_ (bs_ hb);(try clear hb);(try clear hb2);(try clear hk);(try clear hi)))
  go_ret
  exact⟨by first | rfl | (simp [errW_none,errW_some] <;> rfl) | (simp [*,errW_none,errW_some] <;> rfl),hb_⟩
def laws_FnExactCountUniqueSinks.Pure:Prop:= ∀(a0:Int),(Lit.int .i64 a0).wf=true→ ∃k,laws_FnExactCountUniqueSinks.f k a0=some true
theorem laws_FnExactCountUniqueSinks.walk (P:laws_FnExactCountUniqueSinks.Pure) (a0:Int) (w:World) (w0:(Lit.int .i64 a0).wf=true):
  Calls Try.prog 3 #[.int .i64 a0] w fun e w'=>e= .returned (.bool true)∧Below w.heap.size w w':=by
 obtain⟨k,h⟩:=P a0 w0
 refine(laws_FnExactCountUniqueSinks.calls k a0 true w h).mono ?_
 rintro e w' ⟨rfl,hd⟩
 exact⟨rfl,hd⟩
end Go.Proofs.Ytmcddlpgffbmpaa.Pr
end
section
namespace Go.Proofs.YtmcddlpgffbmpaaW.PrintWords
open Go.ChangeShapes Go.WideShapes
end Go.Proofs.YtmcddlpgffbmpaaW.PrintWords
end
section
namespace Go.Proofs.Ytmcddlpgffbmpaa.Op
open Go.ChangeShapes Go.WideShapes Go.ChangeAt Go.RowKit Go.Deep Go.Joins Go.Proofs.YtmcddlpgffbmpaaW.PrintWords
def GoodInt (k:IntKind) (n:Int):Prop:=(Lit.int k n).wf=true
section
variable {P:Program} {W:World} {H:Type} {enc:TypeId × Value→H} {base:Nat} {held:Bool} {t:TypeId} {v:Value} {dd:DataW H} {ps:List MemPlace} {r:Reach} {b0:Nat}
theorem trod_blocks (h:DataW.Trod enc P W base (fun _=>true) held t v dd ps): ∀x ∈ ps,x.block < W.heap.size:=by
 obtain⟨m,hm⟩:=h
 exact DataW.trod_lt m _ _ _ hm
end
end Go.Proofs.Ytmcddlpgffbmpaa.Op
end
section
namespace Go.Proofs.Ytmcddlpgffbmpaa.Say
open Go.Proofs.Ytmcddlpgffbmpaa.Op Go.Proofs.Ytmcddlpgffbmpaa.Pr
def FnExactCountUniqueSinks:Prop:= ∀(a0:Int),GoodInt .i64 a0→ ∃k,laws_FnExactCountUniqueSinks.f k a0=some true
end Go.Proofs.Ytmcddlpgffbmpaa.Say
end
section
namespace Go.Proofs.Ytmcddlpgffbmpaa.Pure
open Go.RowKit Go.Proofs.YtmcddlpgffbmpaaW.PrintWords Go.Proofs.YtmcddlpgffbmpaaW.PrintMore Go.Proofs.Ytmcddlpgffbmpaa.Ma Go.Proofs.Ytmcddlpgffbmpaa.Pr Go.Proofs.Ytmcddlpgffbmpaa.Us Go.Proofs.Ytmcddlpgffbmpaa.Cu Go.Proofs.Ytmcddlpgffbmpaa.Op
theorem shl_nat {i:Nat} (h:i≤62):shl .i64 1 (i:Int)=((2 ^ i:Nat):Int):=by
 rw [shl_one (by omega) (by omega),Int.toNat_natCast]
def encE (e:Nat × Nat):List Int:= [(e.1:Int),((2 ^ e.2:Nat):Int)]
theorem m8 {n m:Nat} (hn1:1≤n) (hn:n≤3) (hm:2 ^ n=m):m≤8:=by rw [← hm];exact Nat.pow_le_pow_right (n:=2) (by decide) hn
section
variable {n m:Nat} (hn1:1≤n) (hn:n≤3) (hm:2 ^ n=m)
include hn1 hn hm
theorem sp1 {v:Nat} (hv:v < m) (r:Int × Int) (h:Ev (fun k=>spec_CountUniqueSinks.l0 k (n:Int) ((edO n (v+1)).map encE) ((v+1:Nat):Int)) r): ∀q i,i+q=n→Ev (fun k=>spec_CountUniqueSinks.l1 k (n:Int) ((edO n v++edI v i).map encE) (v:Int) (i:Int)) r:=by
  have h8:=m8 hn1 hn hm
  intro q
  induction q with
  | zero=>
    intro i hi
    refine evstep (fun k=>by rw [spec_CountUniqueSinks.l1]) (evneg (by omega) ?_)
    obtain rfl:i=n:=by omega
    rw [w64 (x:=(v:Int)+1) (by omega) (by omega)]
    exact h
  | succ q ih=>
    intro i hi
    have h1:=ih (i+1) (by omega)
    have hl:((edO n v++edI v i).map encE).length < 5864062014805:=by
      have a:=edO_len n v
      have b:=edI_len v i
      have c:v*n≤8*3:=Nat.mul_le_mul (by omega) hn
      rw [List.length_map,List.length_append]
      omega
    refine evstep (fun k=>by rw [spec_CountUniqueSinks.l1]) (evpos (by omega) ?_)
    rw [u64w (x:=(i:Int)) (by omega) (by omega),w64 (x:=(i:Int)+1) (by omega) (by omega),and_shl _ (by omega),bB_nat _ _ (by omega),shl_nat (by omega)]
    refine evpos (by omega) ?_
    by_cases c:v.testBit i=true
    · rw [if_pos c]
      refine evneg (by have:(2:Int) ^ i≠0:=by(have h:=Nat.pow_pos (n:=i) (show 0 < 2 by decide));(have e:(2:Int) ^ i=((2 ^ i:Nat):Int):=by rw [Int.natCast_pow];rfl);(rw [e];omega)
                       exact this) ?_
      have e:edI v (i+1)=edI v i:=by show (if v.testBit i=true then _ else _)=_;rw [if_pos c]
      rw [e] at h1
      exact h1
    · rw [if_neg c]
      refine evpos rfl (evpos hl ?_)
      have e:edI v (i+1)=edI v i++ [(v,i)]:=by show (if v.testBit i=true then _ else _)=_;rw [if_neg c]
      rw [e, ← List.append_assoc,List.map_append] at h1
      exact h1
theorem sp0 (r:Int × Int) (h:Ev (fun k=>spec_CountUniqueSinks.l2 k (n:Int) ((edO n m).map encE) 0 0) r): ∀q v,v+q=m→Ev (fun k=>spec_CountUniqueSinks.l0 k (n:Int) ((edO n v).map encE) (v:Int)) r:=by
 have h8:=m8 hn1 hn hm
 intro q
 induction q with
 | zero=>
  intro v hv
  refine evstep (fun k=>by rw [spec_CountUniqueSinks.l0]) ?_
  rw [u64w (x:=(n:Int)) (by omega) (by omega),shl_nat (by omega),hm]
  obtain rfl:v=m:=by omega
  exact evpos (by omega) (evneg (by omega) h)
 | succ q ih=>
  intro v hv
  refine evstep (fun k=>by rw [spec_CountUniqueSinks.l0]) ?_
  rw [u64w (x:=(n:Int)) (by omega) (by omega),shl_nat (by omega),hm]
  refine evpos (by omega) (evpos (by omega) ?_)
  have:=sp1 hn1 hn hm (show v < m by omega) r (ih (v+1) (by omega)) n 0 (by omega)
  rw [show edO n v++edI v 0=edO n v by unfold edI;rw [List.append_nil]] at this
  exact this
theorem sp3 {E:List (Nat × Nat)} (hE:edE n=E) (x8:Int) (c:Nat) (r:Int × Int) (h:Ev (fun k=>(spec_l06Unique.f k (n:Int) (outL m (outN E c E.length))).bind fun t=>if t=true then spec_CountUniqueSinks.l2 k (n:Int) (E.map encE) (wrap64 (x8+1)) (wrap64 ((c:Int)+1)) else spec_CountUniqueSinks.l2 k (n:Int) (E.map encE) x8 (wrap64 ((c:Int)+1))) r):
  ∀q j,j+q=E.length→Ev (fun k=>spec_CountUniqueSinks.l3 k (n:Int) (E.map encE) x8 (c:Int) (j:Int) (n:Int) (outL m (outN E c j))) r:=by
 have h8:=m8 hn1 hn hm
 have F:=full hn1 hn
 have hl12:=edE_len hn1 hn
 rw [hE] at F hl12
 intro q
 induction q with
 | zero=>
  intro j hj
  refine evstep (fun k=>by rw [spec_CountUniqueSinks.l3]) (evneg (by rw [List.length_map];omega) ?_)
  obtain rfl:j=E.length:=by omega
  exact h
 | succ q ih=>
  intro j hj
  have h1:=ih (j+1) (by omega)
  refine evstep (fun k=>by rw [spec_CountUniqueSinks.l3]) (evpos (by rw [List.length_map];omega) (evpos (by omega) ?_))
  obtain⟨d1,d2⟩:=F.dir j (by omega)
  obtain⟨v,i,hg⟩: ∃v i,E.getD j (0,0)=(v,i):=⟨_,_,rfl⟩
  have hrd:rd_L1 (E.map encE) (j:Int)= [(v:Int),((2 ^ i:Nat):Int)]:=by
   have hj2:j < E.length:=by omega
   rw [List.getD_eq_getElem?_getD,List.getElem?_eq_getElem hj2] at hg
   have hg2:E[j]=(v,i):=hg
   unfold rd_L1
   rw [Int.toNat_natCast,List.getD_eq_getElem?_getD,List.getElem?_map,List.getElem?_eq_getElem hj2,hg2]
   rfl
  rw [hg] at d1 d2
  have hi63:2 ^ i < 2 ^ 63:=Nat.pow_lt_pow_right (by decide) (by have:i < n:=d1;omega)
  have hvm:v < m:=by rw [← hm];exact d2
  have hlt9: ∀x,outN E c j x < 2 ^ 63:=fun x=>by
   refine Nat.lt_pow_two_of_testBit _ (fun y hy=>?_)
   cases hb:(outN E c j x).testBit y with
   | false=>rfl
   | true=>
    obtain⟨p,a,b,_⟩:=(out_bit _ _ _ _ _).1 hb
    have:=(F.dir p (by omega)).1
    omega
  have e0:rd ([(v:Int),((2 ^ i:Nat):Int)]:List Int) 0=(v:Int):=rfl
  have e1:rd ([(v:Int),((2 ^ i:Nat):Int)]:List Int) 1=((2 ^ i:Nat):Int):=rfl
  rw [hrd,e0,e1,u64w (x:=(j:Int)) (by omega) (by omega),shr_and_one _ (by omega),bB_nat _ _ (by omega),xor_nat (by omega) hi63,w64 (x:=(j:Int)+1) (by omega) (by omega),outL_len]
  refine evpos (by simp) (evpos (by omega) ?_)
  have key: ∀f:Nat,f < m→flp c j (E.getD j (0,0))=f→(outL m (outN E c j)).set ((f:Int)).toNat (Go.bits .or .i64 (rd (outL m (outN E c j)) (f:Int)) ((2 ^ i:Nat):Int))=outL m (outN E c (j+1)):=by
   intro f hf hfl
   rw [rd_nat,outL_at _ _ hf,or_nat (hlt9 f) hi63,Int.toNat_natCast,outL_set _ _ hf]
   congr 1
   funext x
   show _=(if x=flp c j (E.getD j (0,0)) then outN E c j x ||| 2 ^ (E.getD j (0,0)).2 else outN E c j x)
   rw [hfl,hg]
   by_cases e:x=f
   ·rw [if_pos e,if_pos e,e]
   ·rw [if_neg e,if_neg e]
  by_cases hb:c.testBit j=true
  ·rw [if_pos hb]
   have hfm:v ^^^ 2 ^ i < m:=by rw [← hm];exact flip_lt (by rw [hm];exact hvm) d1
   have hk:=key (v ^^^ 2 ^ i) hfm (by rw [hg];unfold flp;rw [if_pos hb])
   refine evpos rfl (evpos (by simp) (evpos (by omega) (evpos (by omega) ?_)))
   rw [hk]
   exact h1
  ·rw [if_neg hb]
   have hk:=key v hvm (by rw [hg];unfold flp;rw [if_neg hb])
   refine evneg (by decide) (evpos (by omega) (evpos (by omega) (evpos (by simp) ?_)))
   rw [hk]
   exact h1
theorem sp2 {E:List (Nat × Nat)} (hE:edE n=E): ∀q c,c+q=2 ^ E.length→Ev (fun k=>spec_CountUniqueSinks.l2 k (n:Int) (E.map encE) (cntU n c) (c:Int)) (cntU n (2 ^ E.length),0):=by
 classical
 have h8:=m8 hn1 hn hm
 have hl12:=edE_len hn1 hn
 rw [hE] at hl12
 have hp:2 ^ E.length≤4096:=Nat.pow_le_pow_right (n:=2) (by decide) hl12
 intro q
 induction q with
 | zero=>
  intro c hc
  refine evstep (fun k=>by rw [spec_CountUniqueSinks.l2]) ?_
  rw [List.length_map,u64w (x:=(E.length:Int)) (by omega) (by omega),shl_nat (by omega), ← hc]
  exact evpos (by omega) (evneg (by omega) (evc rfl))
 | succ q ih=>
  intro c hc
  have h1:=ih (c+1) (by omega)
  have hok:CubeOK n (outL m (outN E c E.length)):=by rw [← hE, ← hm];exact out_ok hn1 hn c
  have hu:=spec_unique hok (decide (Pairs (2 ^ n) (sN (outL m (outN E c E.length))))) (by simp)
  have hc2:=cntU_le n c
  have hce:cntU n (c+1)=if Pairs (2 ^ n) (sN (outL m (outN E c E.length))) then cntU n c+1 else cntU n c:=by
   show (if Pairs (2 ^ n) (sN (outL (2 ^ n) (outN (edE n) c (edE n).length))) then cntU n c+1 else cntU n c)=_
   rw [hE,hm]
  refine evstep (fun k=>by rw [spec_CountUniqueSinks.l2]) ?_
  rw [List.length_map,u64w (x:=(E.length:Int)) (by omega) (by omega),shl_nat (i:=E.length) (by omega),u64w (x:=(n:Int)) (by omega) (by omega),shl_nat (i:=n) (by omega),hm,Int.toNat_natCast, ← outL_zero E c m]
  refine evpos (by omega) (evpos (by omega) (evpos (by omega) (evpos (by omega) (evpos (by omega) ?_))))
  refine sp3 hn1 hn hm hE (cntU n c) c _ ?_ E.length 0 (by omega)
  refine evbind hu ?_
  rw [w64 (x:=(c:Int)+1) (by omega) (by omega),w64 (x:=cntU n c+1) (by omega) (by omega)]
  by_cases p:Pairs (2 ^ n) (sN (outL m (outN E c E.length)))
  ·rw [hce,if_pos p] at h1
   exact evpos (decide_eq_true p) h1
  ·rw [hce,if_neg p] at h1
   exact evneg (by simpa using p) h1
end
theorem spec_cus (a:Int):Ev (fun k=>spec_CountUniqueSinks.f k a) (cusR a):=by
 unfold spec_CountUniqueSinks.f cusR
 refine evsome (within_eq _ _ _) ?_
 by_cases h:1≤a∧a≤3
 ·obtain⟨n,rfl⟩:=Int.eq_ofNat_of_zero_le (show 0≤a by omega)
  rw [if_pos h,Int.toNat_natCast]
  exact evpos (decide_eq_true h) (sp0 (m:=2 ^ n) (by omega) (by omega) rfl _ (sp2 (m:=2 ^ n) (E:=edE n) (by omega) (by omega) rfl rfl _ 0 (Nat.zero_add _)) (2 ^ n) 0 (by omega))
 ·rw [if_neg h]
  exact evneg (by simpa using h) (evc rfl)
theorem FnExactCountUniqueSinks:Say.FnExactCountUniqueSinks:=by
 intro a ha
 obtain⟨k,hk⟩:=spec_cus a
 refine⟨k,?_⟩
 unfold laws_FnExactCountUniqueSinks.f impl_CountUniqueSinks.f
 have hk2:spec_CountUniqueSinks.f k a=some (cusR a):=hk k (Nat.le_refl _)
 rw [hk2]
 simp
end Go.Proofs.Ytmcddlpgffbmpaa.Pure
end
section
namespace Go.Proofs.Ytmcddlpgffbmpaa.fnExactCountUniqueSinks
open Go.ChangeShapes Go.WideShapes Go.ChangeAt Go.RowKit Go.Proofs.Ytmcddlpgffbmpaa.Op Go.Proofs.YtmcddlpgffbmpaaW.PrintWords
theorem own:ownKnob Try.prog.godebug=none:=by kernel_rfl
theorem laidOut:laidOutB Try.prog=true:=by kernel_rfl
theorem lifted (os:Os) (started:os.Started) (H:Type) (enc:TypeId × Value→H):
  ReturnsInHanded {} Try.checked os 3 .any (Rows.fnExactCountUniqueSinksSpec.pre6 enc Try.prog Try.f3 Rows.fnExactCountUniqueSinksRow.domain false) (Rows.fnExactCountUniqueSinksSpec.post enc Try.prog Try.f3 false true false false):=by
 refine returnsInHanded_of_change_sized (C:=Try.checked) own started (by kernel_rfl) Try.func3
  (ChangeSpec.witness6 (enc:=enc) (C:=Try.checked) false ⟨#[], #[.int .i64 0], []⟩ 8 (by kernel_rfl) (by kernel_rfl) (by kernel_rfl) (by kernel_rfl)) ?_
 intro W base args ds gs before hval0 hW hcnd hsz0 _
 have hval: ∀(j:Nat) t v,Try.f3.params[j]?=some t→args[j]?=some v→Value.okWide Try.prog W .any base t v:=hval0
 have hW':=hW
 obtain⟨p,q,hA0,hV,rfl,hfz,hnd⟩:=hW
 have hA:DataW.TrodAll enc Try.prog W 0 (fun _=>true) true Try.f3.params.toList args.toList ds p:=hA0
 rw [Try.params3] at hA hval
 obtain⟨v0,vs0,d0,ds0,p0,q0,hargs,rfl,rfl,h0,r0⟩:=trodAll_cons hA
 obtain⟨rfl,rfl,rfl⟩:=trodAll_nil r0
 obtain rfl:args= #[v0]:=by cases args;simp_all
 obtain⟨rfl,rfl⟩:=trodVars_none hV
 have k0:=h0
 have lt0:=trod_blocks k0
 obtain⟨a0,rfl,rfl,rfl,g0⟩:=open_int Try.underlying2 (hval 0 2 v0 rfl rfl) h0
 obtain⟨k,h⟩:=Pure.FnExactCountUniqueSinks a0 g0
 clear hA0 hval0 hsz0
 refine(Pr.laws_FnExactCountUniqueSinks.calls k a0 true W  h).mono ?_
 rintro e W' ⟨rfl,bel0⟩
 have bel:Below W.heap.size W W':=by first | exact bel0 | exact bel0.below
 exact⟨_,rfl,_,_,_, [],_, [],hW',trodAll_mk1 (shut_bool Try.underlying4 _),(trodAll_cons_mk (Below.trod laidOut (by kernel_rfl) (of_decide_eq_true (by kernel_rfl)) k0 bel lt0) trodAll_mk0),rfl,bel.frame _,fun h=>by cases h⟩
theorem over:Rows.fnExactCountUniqueSinksRow.holds Try.pinned (OpenSpec.ofChange Rows.fnExactCountUniqueSinksSpec):=
 OpenClaim.holds_of_wide 3 Try.f3 rfl rfl rfl rfl rfl rfl rfl ⟨rfl,rfl,rfl,rfl,rfl⟩ rfl rfl rfl rfl rfl (by kernel_rfl) Try.func3 (by kernel_rfl)
  (of_decide_eq_true (by kernel_rfl)) (by unfold Func.isWrapper;first | (rw [if_pos (by decide+kernel)];kernel_rfl) | (rw [if_neg (by decide+kernel)];exact⟨rfl,rfl⟩))
  (fun os started H enc _=>lifted os started H enc)
theorem proved:Rows.FnExactCountUniqueSinksSaid:=over
#print axioms proved
end Go.Proofs.Ytmcddlpgffbmpaa.fnExactCountUniqueSinks
namespace Go.Proofs.Ytmcddlpgffbmpaa
theorem fnExactCountUniqueSinks_holds:Rows.FnExactCountUniqueSinksSaid:=fnExactCountUniqueSinks.proved
end Go.Proofs.Ytmcddlpgffbmpaa
end
