-- Written by a program of this session (wip/patch.py turns a copy of the kit's print): the functions that the law reaches, and their walks.
import Derived.Test.YtopbiecjfhfhdaaPFnCodesx0
import Derived.Test.YtopbiecjfhfhdaaPFnCodesx4
import Derived.Test.YtopbiecjfhfhdaaPFnCodesx5
import Derived.Test.YtopbiecjfhfhdaaCFnCodes
namespace Go.Proofs.Ytopbiecjfhfhdaa.PFnCodes
open Go.RowKit Go.Proofs.YtopbiecjfhfhdaaW.PrintWords Go.Proofs.YtopbiecjfhfhdaaW.PrintLast Go.Proofs.YtopbiecjfhfhdaaW.PrintMore Go.Proofs.YtopbiecjfhfhdaaW.Mine
attribute [local go_sem] max2_int min2_int max_two min_two max_three min_three max_four min_four   -- for this text's walks alone
set_option linter.unusedVariables false
set_option linter.unusedSimpArgs false

/-! ### spec_DrawCodeOk: function 28 -/
def spec_DrawCodeOk.l0 : Nat → List (S25) → List Int → Int → Int → Option ((List (S25)))
 | 0, _, _, _, _ => none
 | k + 1, x4, da, dz, dA => (spec_l1Below.f da dz dA 2).bind fun bX => (if (x4.length : Int) < (wrap64 (48 + bX.1)) then (if x4.length < 3518437208883 then (spec_DrawCodeOk.l0 k (x4 ++ [(⟨15, 0, 0, 0, 0⟩ : S25)]) da bX.2.1 bX.2.2) else (none)) else (some x4))
def spec_DrawCodeOk.f (k : Nat) (l0 : List Int) : Option ((List (S25))) := (spec_l1New.f k l0).bind fun bl => ((spec_l6DrawCode.f k bl.1 bl.2.1 bl.2.2).bind fun bf => ((spec_l1Below.f bl.1 bf.2.1 bf.2.2 (bf.1.length : Int)).bind fun bc => ((spec_l1Below.f bl.1 bc.2.1 bc.2.2 6).bind fun bg => (if bg.1 = 0 then (if 0 ≤ bc.1 then (if bc.1 < (bf.1.length : Int) then ((spec_l6Spoil.f bl.1 bg.2.1 bg.2.2 ((rd_T25 bf.1 bc.1).f0) ((rd_T25 bf.1 bc.1).f1) ((rd_T25 bf.1 bc.1).f2) ((rd_T25 bf.1 bc.1).f3) ((rd_T25 bf.1 bc.1).f4)).bind fun bi => (some (bf.1.set (bc.1 : Int).toNat (⟨bi.1, bi.2.1, bi.2.2.1, bi.2.2.2.1, bi.2.2.2.2.1⟩ : S25)))) else (none)) else (none)) else (if bg.1 = 1 then (if 0 ≤ bc.1 then (if bc.1 ≤ (bf.1.length : Int) then (some (bf.1.take (bc.1 : Int).toNat)) else (none)) else (none)) else (if bg.1 = 2 then (spec_DrawCodeOk.l0 k bf.1 bl.1 bg.2.1 bg.2.2) else (some bf.1)))))))
theorem spec_DrawCodeOk.mono_l : ∀ k, (∀ y0 y1 y2 y3, LeO (spec_DrawCodeOk.l0 k y0 y1 y2 y3) (spec_DrawCodeOk.l0 (k + 1) y0 y1 y2 y3))
 | 0 => fun _ _ _ _ r h => by simp [spec_DrawCodeOk.l0] at h
 | k + 1 => by
  have ih0 := spec_DrawCodeOk.mono_l k
  ·intro y0 y1 y2 y3
   unfold spec_DrawCodeOk.l0
   repeat' first
   | (with_reducible exact ih0 _ _ _ _)
   | (with_reducible exact spec_l1New.mono _ _)
   | (with_reducible exact spec_l6DrawCode.mono _ _ _ _)
   | (with_reducible exact LeO.refl _)
   | (with_reducible exact LeO.none _)
   | (with_reducible refine LeO.ite ?_ ?_)
   | (with_reducible refine LeO.bind ?_ (fun _ => ?_))
   | exact ih0 _ _ _ _
   | exact spec_l1New.mono _ _
   | exact spec_l6DrawCode.mono _ _ _ _
   | exact LeO.none _
   | refine LeO.ite ?_ ?_
   | refine LeO.bind ?_ (fun _ => ?_)
theorem spec_DrawCodeOk.mono : ∀ a0 k, LeO (spec_DrawCodeOk.f k a0) (spec_DrawCodeOk.f (k + 1) a0) := by
 intro a0 k; have ih0 := spec_DrawCodeOk.mono_l k
 unfold spec_DrawCodeOk.f
 repeat' first
   | (with_reducible exact ih0 _ _ _ _)
   | (with_reducible exact spec_l1New.mono _ _)
   | (with_reducible exact spec_l6DrawCode.mono _ _ _ _)
   | (with_reducible exact LeO.refl _)
   | (with_reducible exact LeO.none _)
   | (with_reducible refine LeO.ite ?_ ?_)
   | (with_reducible refine LeO.bind ?_ (fun _ => ?_))
   | exact ih0 _ _ _ _
   | exact spec_l1New.mono _ _
   | exact spec_l6DrawCode.mono _ _ _ _
   | exact LeO.none _
   | refine LeO.ite ?_ ?_
   | refine LeO.bind ?_ (fun _ => ?_)
set_option maxHeartbeats 8000000 in
set_option maxRecDepth 100000 in
theorem spec_DrawCodeOk.calls (k : Nat) (A0 : Option Addr) (c0 : Nat) (l0 : List Int) (r : List (S25)) (w : World) (hr0 : Kd.C (Kd.int .u8) w A0 l0.length l0) (hc0 : l0.length ≤ c0) (h : spec_DrawCodeOk.f k l0 = some r) :
  Calls Try.prog 28 #[.slice A0 l0.length c0] w fun e w' => ∃ v0_ : Value, e = .returned (v0_) ∧ Kd.R k25 25 w' w.heap.size (fun _ => True) v0_ r ∧ Below w.heap.size w w' := by
 have hu25 := Try.underlying25; have bB := Aside0.mk hr0; have bC := Aside0.mk hc0; clear hr0 hc0; have HB := Aside0.mk (Below.refl w.heap.size w); have H : ((spec_l1New.f k l0).bind fun bl => ((spec_l6DrawCode.f k bl.1 bl.2.1 bl.2.2).bind fun bf => ((spec_l1Below.f bl.1 bf.2.1 bf.2.2 (bf.1.length : Int)).bind fun bc => ((spec_l1Below.f bl.1 bc.2.1 bc.2.2 6).bind fun bg => (if bg.1 = 0 then (if 0 ≤ bc.1 then (if bc.1 < (bf.1.length : Int) then ((spec_l6Spoil.f bl.1 bg.2.1 bg.2.2 ((rd_T25 bf.1 bc.1).f0) ((rd_T25 bf.1 bc.1).f1) ((rd_T25 bf.1 bc.1).f2) ((rd_T25 bf.1 bc.1).f3) ((rd_T25 bf.1 bc.1).f4)).bind fun bi => (some (bf.1.set (bc.1 : Int).toNat (⟨bi.1, bi.2.1, bi.2.2.1, bi.2.2.2.1, bi.2.2.2.2.1⟩ : S25)))) else (none)) else (none)) else (if bg.1 = 1 then (if 0 ≤ bc.1 then (if bc.1 ≤ (bf.1.length : Int) then (some (bf.1.take (bc.1 : Int).toNat)) else (none)) else (none)) else (if bg.1 = 2 then (spec_DrawCodeOk.l0 k bf.1 bl.1 bg.2.1 bg.2.2) else (some bf.1)))))))) = some r := h; clear h; replace H := Option.bind_eq_some_iff.mp H; obtain ⟨⟨bd, bw, bx⟩, A20, H⟩ := H; replace H : ((spec_l6DrawCode.f k bd bw bx).bind fun bf => ((spec_l1Below.f bd bf.2.1 bf.2.2 (bf.1.length : Int)).bind fun bc => ((spec_l1Below.f bd bc.2.1 bc.2.2 6).bind fun bg => (if bg.1 = 0 then (if 0 ≤ bc.1 then (if bc.1 < (bf.1.length : Int) then ((spec_l6Spoil.f bd bg.2.1 bg.2.2 ((rd_T25 bf.1 bc.1).f0) ((rd_T25 bf.1 bc.1).f1) ((rd_T25 bf.1 bc.1).f2) ((rd_T25 bf.1 bc.1).f3) ((rd_T25 bf.1 bc.1).f4)).bind fun bi => (some (bf.1.set (bc.1 : Int).toNat (⟨bi.1, bi.2.1, bi.2.2.1, bi.2.2.2.1, bi.2.2.2.2.1⟩ : S25)))) else (none)) else (none)) else (if bg.1 = 1 then (if 0 ≤ bc.1 then (if bc.1 ≤ (bf.1.length : Int) then (some (bf.1.take (bc.1 : Int).toNat)) else (none)) else (none)) else (if bg.1 = 2 then (spec_DrawCodeOk.l0 k bf.1 bd bg.2.1 bg.2.2) else (some bf.1))))))) = some r := H; have A2 := Aside0.mk A20; clear A20; replace H := Option.bind_eq_some_iff.mp H; obtain ⟨⟨bb, bn, bo⟩, A30, H⟩ := H; replace H : ((spec_l1Below.f bd bn bo (bb.length : Int)).bind fun bc => ((spec_l1Below.f bd bc.2.1 bc.2.2 6).bind fun bg => (if bg.1 = 0 then (if 0 ≤ bc.1 then (if bc.1 < (bb.length : Int) then ((spec_l6Spoil.f bd bg.2.1 bg.2.2 ((rd_T25 bb bc.1).f0) ((rd_T25 bb bc.1).f1) ((rd_T25 bb bc.1).f2) ((rd_T25 bb bc.1).f3) ((rd_T25 bb bc.1).f4)).bind fun bi => (some (bb.set (bc.1 : Int).toNat (⟨bi.1, bi.2.1, bi.2.2.1, bi.2.2.2.1, bi.2.2.2.2.1⟩ : S25)))) else (none)) else (none)) else (if bg.1 = 1 then (if 0 ≤ bc.1 then (if bc.1 ≤ (bb.length : Int) then (some (bb.take (bc.1 : Int).toNat)) else (none)) else (none)) else (if bg.1 = 2 then (spec_DrawCodeOk.l0 k bb bd bg.2.1 bg.2.2) else (some bb)))))) = some r := H; have A3 := Aside0.mk A30; clear A30; replace H := Option.bind_eq_some_iff.mp H; obtain ⟨⟨ba, bp, bq⟩, A40, H⟩ := H; replace H : ((spec_l1Below.f bd bp bq 6).bind fun bg => (if bg.1 = 0 then (if 0 ≤ ba then (if ba < (bb.length : Int) then ((spec_l6Spoil.f bd bg.2.1 bg.2.2 ((rd_T25 bb ba).f0) ((rd_T25 bb ba).f1) ((rd_T25 bb ba).f2) ((rd_T25 bb ba).f3) ((rd_T25 bb ba).f4)).bind fun bi => (some (bb.set (ba : Int).toNat (⟨bi.1, bi.2.1, bi.2.2.1, bi.2.2.2.1, bi.2.2.2.2.1⟩ : S25)))) else (none)) else (none)) else (if bg.1 = 1 then (if 0 ≤ ba then (if ba ≤ (bb.length : Int) then (some (bb.take (ba : Int).toNat)) else (none)) else (none)) else (if bg.1 = 2 then (spec_DrawCodeOk.l0 k bb bd bg.2.1 bg.2.2) else (some bb))))) = some r := H; have A4 := Aside0.mk A40; clear A40; replace H := Option.bind_eq_some_iff.mp H; obtain ⟨⟨bj, bz, bA⟩, A50, H⟩ := H; replace H : (if bj = 0 then (if 0 ≤ ba then (if ba < (bb.length : Int) then ((spec_l6Spoil.f bd bz bA ((rd_T25 bb ba).f0) ((rd_T25 bb ba).f1) ((rd_T25 bb ba).f2) ((rd_T25 bb ba).f3) ((rd_T25 bb ba).f4)).bind fun bi => (some (bb.set (ba : Int).toNat (⟨bi.1, bi.2.1, bi.2.2.1, bi.2.2.2.1, bi.2.2.2.2.1⟩ : S25)))) else (none)) else (none)) else (if bj = 1 then (if 0 ≤ ba then (if ba ≤ (bb.length : Int) then (some (bb.take (ba : Int).toNat)) else (none)) else (none)) else (if bj = 2 then (spec_DrawCodeOk.l0 k bb bd bz bA) else (some bb)))) = some r := H; have A5 := Aside0.mk A50; clear A50
 by_cases c6 : bj = 0
 ·rw [if_pos c6] at H
  have c6b0 : (bj == 0) = true := beq_iff_eq.mpr c6; have c6b1 : (bj != 0) = false := bne_eq_false_iff_eq.mpr c6; clear c6
  by_cases c7 : 0 ≤ ba
  ·rw [if_pos c7] at H
   have c7b0 : decide (0 ≤ ba) = true := decide_eq_true c7; clear c7
   by_cases c8 : ba < (bb.length : Int)
   ·rw [if_pos c8] at H
    have c8b0 : decide (ba < (bb.length : Int)) = true := decide_eq_true c8; clear c8; replace H := Option.bind_eq_some_iff.mp H; obtain ⟨⟨bD, bE, bF, bG, bH, dB, dC⟩, A90, H⟩ := H; replace H : (some (bb.set (ba : Int).toNat (⟨bD, bE, bF, bG, bH⟩ : S25))) = some r := H; have A9 := Aside0.mk A90; clear A90; obtain ⟨db, bP⟩ : ∃ y_ : List (S25), y_ = (bb.set (ba : Int).toNat (⟨bD, bE, bF, bG, bH⟩ : S25)) := ⟨_, rfl⟩; replace H : (some db) = some r := by first | (rw [bP]; with_reducible exact H) | (have H2_ := (Option.bind_some _ _).symm.trans H; rw [bP]; with_reducible exact H2_) | (have H2_ := (Option.bind_some _ _).symm.trans H; with_reducible exact H2_) | with_reducible exact H | (rw [bP]; exact H) | exact H
    have dD := Aside0.mk bP; clear bP; obtain rfl := Option.some.inj H
    go_enter Try.func28, Try.ntmps28
    go_wp2_with (first | ((with_reducible refine gate_callee (f := 44) rfl ?_); refine goesM (some 7) rfl rfl Try.func44 (by kernel_rfl) rfl #[.slice A0 l0.length c0] rfl ?_; (with_reducible refine (spec_l1New.calls k _ _ l0 bd bw bx w _ ?side1 ?side2 ?side3 A2.out).mono ?_); (case side1 => exact nbe HB); (case side2 => exact bB.out); (case side3 => exact bC.out); rintro e ea ⟨g316, rfl, hi, hb, hb2⟩; refine ⟨_, rfl, ?_⟩; have HI316 := Aside0.mk (hi); replace HB := Aside0.mk (hb); (try clear hb)) | ((with_reducible refine gate_callee (f := 48) rfl ?_); refine goesM (some 9) rfl rfl Try.func48 (by kernel_rfl) rfl #[.pointer (some ⟨g316, 0, none⟩)] rfl ?_; (with_reducible refine (spec_l6DrawCode.calls k g316 bd bw bx bb bn bo w _ ?side1 ?side2 A3.out).mono ?_); (case side1 => exact IsS81.n); (case side2 => exact IsS81.nb); rintro e eb ⟨bY, rfl, bs, hi, hb, hk⟩; refine ⟨_, rfl, ?_⟩; have bh := Aside0.mk (Kd.R_lower bs (below_size (IsS81.nb))); replace HB := Aside0.mk (hb); replace HI316 := Aside0.mk (hi); (try clear hb); (try clear bs); obtain ⟨ec, dc, dE⟩ := Kd.R_slice bh.out; subst dE) | ((with_reducible refine gate_callee (f := 46) rfl ?_); refine goesM (some 13) rfl rfl Try.func46 (by kernel_rfl) rfl #[.pointer (some ⟨g316, 0, none⟩), .int .i64 (bb.length : Int)] rfl ?_; (with_reducible refine (spec_l1Below.calls g316 bd bn bo (bb.length : Int) ba bp bq w _ ?side1 ?side2 A4.out).mono ?_); (case side1 => exact IsS81.n); (case side2 => exact IsS81.nb); rintro e ed ⟨rfl, hi, hb, hk⟩; refine ⟨_, rfl, ?_⟩; replace bh := Aside0.mk (Kd.R_mono (Kd.R_keep (IsS81.apart (show IsS81 w _ g316 bd bn bo from IsS81.n) (nRo bh) (by decide)) hk (fun _ h => h.2)) (fun _ h => h.1)); replace HB := Aside0.mk (hb); replace HI316 := Aside0.mk (hi); (try clear hb)) | ((with_reducible refine gate_callee (f := 46) rfl ?_); refine goesM (some 15) rfl rfl Try.func46 (by kernel_rfl) rfl #[.pointer (some ⟨g316, 0, none⟩), .int .i64 6] rfl ?_; (with_reducible refine (spec_l1Below.calls g316 bd bp bq 6 bj bz bA w _ ?side1 ?side2 A5.out).mono ?_); (case side1 => exact IsS81.n); (case side2 => exact IsS81.nb); rintro e ee ⟨rfl, hi, hb, hk⟩; refine ⟨_, rfl, ?_⟩; replace bh := Aside0.mk (Kd.R_mono (Kd.R_keep (IsS81.apart (show IsS81 w _ g316 bd bp bq from IsS81.n) (nRo bh) (by decide)) hk (fun _ h => h.2)) (fun _ h => h.1)); replace HB := Aside0.mk (hb); replace HI316 := Aside0.mk (hi); (try clear hb); have p328 : 0 ≤ (ba : Int) := of_decide_eq_true (by first | (with_reducible assumption) | assumption); have q328 : ba < (bb.length : Int) := of_decide_eq_true (by first | (with_reducible assumption) | assumption); obtain ⟨ef, e328, dd, de, df, dg, dh⟩ := at_T25 (Kd.R_reads' bh.out).2.2 ba p328 q328; cases e328; replace p328 := eq_true p328; replace q328 := eq_true q328) | ((with_reducible refine gate_callee (f := 49) rfl ?_); refine goesM (some 25) rfl rfl Try.func49 (by kernel_rfl) rfl #[.pointer (some ⟨g316, 0, none⟩), .agg #[.int .i64 ((rd_T25 bb ba).f0), .int .i64 ((rd_T25 bb ba).f1), .int .i64 ((rd_T25 bb ba).f2), .int .i64 ((rd_T25 bb ba).f3), .int .i64 ((rd_T25 bb ba).f4)]] rfl ?_; (with_reducible refine (spec_l6Spoil.calls g316 bd bz bA ((rd_T25 bb ba).f0) ((rd_T25 bb ba).f1) ((rd_T25 bb ba).f2) ((rd_T25 bb ba).f3) ((rd_T25 bb ba).f4) bD bE bF bG bH dB dC w _ ?side1 ?side2 A9.out).mono ?_); (case side1 => exact IsS81.n); (case side2 => exact IsS81.nb); rintro e br ⟨rfl, hi, hb, hk⟩; refine ⟨_, rfl, ?_⟩; replace bh := Aside0.mk (Kd.R_mono (Kd.R_keep (IsS81.apart (show IsS81 w _ g316 bd bz bA from IsS81.n) (nRo bh) (by decide)) hk (fun _ h => h.2)) (fun _ h => h.1)); replace HB := Aside0.mk (hb); replace HI316 := Aside0.mk (hi); (try clear hb); have p10 : 0 ≤ (ba : Int) := of_decide_eq_true (by first | (with_reducible assumption) | assumption); have q10 : (ba : Int) < ((bb.length : Int) : Int) := of_decide_eq_true (by first | (with_reducible assumption) | assumption); obtain ⟨bk, eg, di, dj, gl10, cl10, HG10⟩ := Kd.R_form bh.out (by omega); (first | cases di | (injection di with ea_ en_ ec_; (first | subst ea_ | (injection ea_ with ea_; subst ea_)); subst ec_; clear en_)); have bQ := Aside0.mk dj; have eh := Aside0.mk HG10; clear dj gl10 HG10; (first | simp only [add_plain] at dd | skip); (first | simp only [add_plain] at de | skip); (first | simp only [add_plain] at df | skip); (first | simp only [add_plain] at dg | skip); (first | simp only [add_plain] at dh | skip); obtain ⟨ei, dF, dk, bL, bM⟩ := Kd.R_elem bh.out z25 (ba : Int) p10 q10; obtain rfl := k25_openM dk; have dG : br.cell? ⟨bk, (ba : Int).toNat * 5, none⟩ = some (.int .i64 ((rd_T25 bb ba).f0)) := bL 0 _ rfl; have dH : br.cell? ⟨bk, (ba : Int).toNat * 5 + 1, none⟩ = some (.int .i64 ((rd_T25 bb ba).f1)) := bL 1 _ rfl; have dI : br.cell? ⟨bk, (ba : Int).toNat * 5 + 2, none⟩ = some (.int .i64 ((rd_T25 bb ba).f2)) := bL 2 _ rfl; have dJ : br.cell? ⟨bk, (ba : Int).toNat * 5 + 3, none⟩ = some (.int .i64 ((rd_T25 bb ba).f3)) := bL 3 _ rfl; have dK : br.cell? ⟨bk, (ba : Int).toNat * 5 + 4, none⟩ = some (.int .i64 ((rd_T25 bb ba).f4)) := bL 4 _ rfl; have hf10_0 : br.frozen? ⟨bk, (ba : Int).toNat * 5, none⟩ = false := bM 0; have hf10_1 : br.frozen? ⟨bk, (ba : Int).toNat * 5 + 1, none⟩ = false := bM 1; have hf10_2 : br.frozen? ⟨bk, (ba : Int).toNat * 5 + 2, none⟩ = false := bM 2; have hf10_3 : br.frozen? ⟨bk, (ba : Int).toNat * 5 + 3, none⟩ = false := bM 3; have hf10_4 : br.frozen? ⟨bk, (ba : Int).toNat * 5 + 4, none⟩ = false := bM 4; clear dF bL bM dk; replace p10 := eq_true p10; replace q10 := eq_true q10; have dl := Aside0.mk (show Kd.R k25 25 br w.heap.size (fun _ => True) (.slice (some ⟨bk, 0, none⟩) bb.length dc) bb from (nRo bh)); obtain ⟨ej, dm, dn, bI, bN⟩ := Kd.R_elem dl.out z25 (ba : Int) (of_decide_eq_true (by first | (with_reducible assumption) | assumption)) (by have h_ : (ba : Int) < ((bb.length : Int) : Int) := of_decide_eq_true (by first | (with_reducible assumption) | assumption); first | exact h_ | (have e_ := (Kd.R_reads' bh.out).1; omega) | simpa using h_); obtain rfl := k25_openM dn; have HP17 := Kd.R_seg dl.out (ba : Int) (of_decide_eq_true (by first | (with_reducible assumption) | assumption)) (by have h_ : (ba : Int) < ((bb.length : Int) : Int) := of_decide_eq_true (by first | (with_reducible assumption) | assumption); first | exact h_ | (have e_ := (Kd.R_reads' bh.out).1; omega) | simpa using h_) (seg := [.int .i64 bD, .int .i64 bE, .int .i64 bF, .int .i64 bG, .int .i64 bH]) (j := 0) dm bI (show 5 ≤ 5 from by decide) (x' := (⟨bD, bE, bF, bG, bH⟩ : S25)) (k25_mkM _ _ _ (⟨bD, bE, bF, bG, bH⟩ : S25) ) (fun _ hk => hk); have dp := bI 0 _ rfl; (try simp only [show (k25).sz = 5 from rfl, Nat.mul_one, Nat.add_zero] at dp); have hf17_0 := bN 0; (try simp only [show (k25).sz = 5 from rfl, Nat.mul_one, Nat.add_zero] at hf17_0); have dq := bI 1 _ rfl; (try simp only [show (k25).sz = 5 from rfl, Nat.mul_one, Nat.add_zero] at dq); have hf17_1 := bN 1; (try simp only [show (k25).sz = 5 from rfl, Nat.mul_one, Nat.add_zero] at hf17_1); have dr := bI 2 _ rfl; (try simp only [show (k25).sz = 5 from rfl, Nat.mul_one, Nat.add_zero] at dr); have hf17_2 := bN 2; (try simp only [show (k25).sz = 5 from rfl, Nat.mul_one, Nat.add_zero] at hf17_2); have ds := bI 3 _ rfl; (try simp only [show (k25).sz = 5 from rfl, Nat.mul_one, Nat.add_zero] at ds); have hf17_3 := bN 3; (try simp only [show (k25).sz = 5 from rfl, Nat.mul_one, Nat.add_zero] at hf17_3); have dt := bI 4 _ rfl; (try simp only [show (k25).sz = 5 from rfl, Nat.mul_one, Nat.add_zero] at dt); have hf17_4 := bN 4; (try simp only [show (k25).sz = 5 from rfl, Nat.mul_one, Nat.add_zero] at hf17_4); clear dm bI bN dn) | ((with_reducible refine gate_store (t := 25) (p := 26) rfl ?_); refine store_event (t := 25) (p := 26) (v := ?vo_w18) (w1 := (((((br.setCell ⟨bk, (ba : Int).toNat * 5, none⟩ (.int .i64 bD)).setCell ⟨bk, (ba : Int).toNat * 5 + 1, none⟩ (.int .i64 bE)).setCell ⟨bk, (ba : Int).toNat * 5 + 2, none⟩ (.int .i64 bF)).setCell ⟨bk, (ba : Int).toNat * 5 + 3, none⟩ (.int .i64 bG)).setCell ⟨bk, (ba : Int).toNat * 5 + 4, none⟩ (.int .i64 bH))) ?hg ?ho ?hn ?hr ?_; (case ho => rfl); (case hg => rfl); (case hn => rfl); (case hr => first | (go_simp; done) | (go_simp; rfl)); intro bZ hw; have hg : br.grownBy bZ (some bk) := (by rw [hw]; exact HP17.2); have hp_ : Kd.R k25 25 bZ w.heap.size (fun _ => True) (.slice (some ⟨bk, 0, none⟩) bb.length dc) db := (by rw [hw, dD.out]; exact HP17.1); clear HP17; replace HI316 := Aside0.mk (IsS81.grown (IsS81.n) hg (IsS81.own_ne HI316.out bh.out (by decide))); replace bh := Aside0.mk (hp_); replace HB := Aside0.mk ((by rw [hw]; exact below_set (below_set (below_set (below_set (below_set (HB.out) bQ.out) bQ.out) bQ.out) bQ.out) bQ.out : Below w.heap.size w bZ)); clear hg hw hp_))
    go_ret
    exact ⟨_, er_, by (with_reducible repeat (first | apply Kd.R_alloc | apply Kd.R_drewN | apply Kd.R_drew)); exact bh.out, IsS81.nb⟩
   ·rw [if_neg c8] at H
    exact absurd H (by simp)
  ·rw [if_neg c7] at H
   exact absurd H (by simp)
 ·rw [if_neg c6] at H
  have c6b0 : (bj == 0) = false := beq_eq_false_iff_ne.mpr c6; have c6b1 : (bj != 0) = true := bne_iff_ne.mpr c6
  by_cases c19 : bj = 1
  ·rw [if_pos c19] at H
   have c19b0 : (bj == 1) = true := beq_iff_eq.mpr c19; have c19b1 : (bj != 1) = false := bne_eq_false_iff_eq.mpr c19; clear c19
   by_cases c20 : 0 ≤ ba
   ·rw [if_pos c20] at H
    have c20b0 := eq_true c20; have c20b1 : decide (0 ≤ ba) = true := decide_eq_true c20; clear c20
    by_cases c21 : ba ≤ (bb.length : Int)
    ·rw [if_pos c21] at H
     have c21b0 := eq_true c21; have c21b1 : decide (ba ≤ (bb.length : Int)) = true := decide_eq_true c21; clear c21; obtain ⟨du, bR⟩ : ∃ y_ : List (S25), y_ = (bb.take (ba : Int).toNat) := ⟨_, rfl⟩; replace H : (some du) = some r := by first | (rw [bR]; with_reducible exact H) | (have H2_ := (Option.bind_some _ _).symm.trans H; rw [bR]; with_reducible exact H2_) | (have H2_ := (Option.bind_some _ _).symm.trans H; with_reducible exact H2_) | with_reducible exact H | (rw [bR]; exact H) | exact H
     have dv := Aside0.mk bR; clear bR; obtain rfl := Option.some.inj H
     go_enter Try.func28, Try.ntmps28
     go_wp2_with (first | ((with_reducible refine gate_callee (f := 44) rfl ?_); refine goesM (some 7) rfl rfl Try.func44 (by kernel_rfl) rfl #[.slice A0 l0.length c0] rfl ?_; (with_reducible refine (spec_l1New.calls k _ _ l0 bd bw bx w _ ?side1 ?side2 ?side3 A2.out).mono ?_); (case side1 => exact nbe HB); (case side2 => exact bB.out); (case side3 => exact bC.out); rintro e ek ⟨g316, rfl, hi, hb, hb2⟩; refine ⟨_, rfl, ?_⟩; have HI316 := Aside0.mk (hi); replace HB := Aside0.mk (hb); (try clear hb)) | ((with_reducible refine gate_callee (f := 48) rfl ?_); refine goesM (some 9) rfl rfl Try.func48 (by kernel_rfl) rfl #[.pointer (some ⟨g316, 0, none⟩)] rfl ?_; (with_reducible refine (spec_l6DrawCode.calls k g316 bd bw bx bb bn bo w _ ?side1 ?side2 A3.out).mono ?_); (case side1 => exact IsS81.n); (case side2 => exact IsS81.nb); rintro e el ⟨bY, rfl, bs, hi, hb, hk⟩; refine ⟨_, rfl, ?_⟩; have bh := Aside0.mk (Kd.R_lower bs (below_size (IsS81.nb))); replace HB := Aside0.mk (hb); replace HI316 := Aside0.mk (hi); (try clear hb); (try clear bs); obtain ⟨dL, dM, dN⟩ := Kd.R_slice bh.out; subst dN) | ((with_reducible refine gate_callee (f := 46) rfl ?_); refine goesM (some 13) rfl rfl Try.func46 (by kernel_rfl) rfl #[.pointer (some ⟨g316, 0, none⟩), .int .i64 (bb.length : Int)] rfl ?_; (with_reducible refine (spec_l1Below.calls g316 bd bn bo (bb.length : Int) ba bp bq w _ ?side1 ?side2 A4.out).mono ?_); (case side1 => exact IsS81.n); (case side2 => exact IsS81.nb); rintro e em ⟨rfl, hi, hb, hk⟩; refine ⟨_, rfl, ?_⟩; replace bh := Aside0.mk (Kd.R_mono (Kd.R_keep (IsS81.apart (show IsS81 w _ g316 bd bn bo from IsS81.n) (nRo bh) (by decide)) hk (fun _ h => h.2)) (fun _ h => h.1)); replace HB := Aside0.mk (hb); replace HI316 := Aside0.mk (hi); (try clear hb)) | ((with_reducible refine gate_callee (f := 46) rfl ?_); refine goesM (some 15) rfl rfl Try.func46 (by kernel_rfl) rfl #[.pointer (some ⟨g316, 0, none⟩), .int .i64 6] rfl ?_; (with_reducible refine (spec_l1Below.calls g316 bd bp bq 6 bj bz bA w _ ?side1 ?side2 A5.out).mono ?_); (case side1 => exact IsS81.n); (case side2 => exact IsS81.nb); rintro e en ⟨rfl, hi, hb, hk⟩; refine ⟨_, rfl, ?_⟩; replace bh := Aside0.mk (Kd.R_mono (Kd.R_keep (IsS81.apart (show IsS81 w _ g316 bd bp bq from IsS81.n) (nRo bh) (by decide)) hk (fun _ h => h.2)) (fun _ h => h.1)); replace HB := Aside0.mk (hb); replace HI316 := Aside0.mk (hi); (try clear hb); have q27 : (ba : Int) ≤ ((bb.length : Int) : Int) := of_decide_eq_true (by first | (with_reducible assumption) | assumption); obtain ⟨i027, hi027, _, hsz27, _⟩ := info_parts info25; have hcut27 := cut_to (P := Try.prog) 38 25 .i64 Try.underlying38 hi027 dL bb.length dM ba (of_decide_eq_true (by first | (with_reducible assumption) | assumption)) q27 (Kd.R_reads' bh.out).2.1; have hr27 := Kd.R_take (m := (ba : Int).toNat) bh.out (by omega); have dw : du.length = (ba : Int).toNat := (by rw [dv.out, List.length_take]; omega); rw [← dv.out] at hr27; rw [← dw] at hr27 hcut27; clear dw hi027 hsz27 bh; have dO := Aside0.mk hr27; clear hr27; replace q27 := eq_true q27))
     go_ret
     exact ⟨_, er_, by (with_reducible repeat (first | apply Kd.R_alloc | apply Kd.R_drewN | apply Kd.R_drew)); exact dO.out, IsS81.nb⟩
    ·rw [if_neg c21] at H
     exact absurd H (by simp)
   ·rw [if_neg c20] at H
    exact absurd H (by simp)
  ·rw [if_neg c19] at H
   have c19b0 : (bj == 1) = false := beq_eq_false_iff_ne.mpr c19; have c19b1 : (bj != 1) = true := bne_iff_ne.mpr c19
   by_cases c28 : bj = 2
   ·rw [if_pos c28] at H
    have c28b0 : (bj == 2) = true := beq_iff_eq.mpr c28; have c28b1 : (bj != 2) = false := bne_eq_false_iff_eq.mpr c28; clear c28; have H' := Aside0.mk H; clear H
    go_enter Try.func28, Try.ntmps28
    go_wp2_with (first | ((with_reducible refine gate_callee (f := 44) rfl ?_); refine goesM (some 7) rfl rfl Try.func44 (by kernel_rfl) rfl #[.slice A0 l0.length c0] rfl ?_; (with_reducible refine (spec_l1New.calls k _ _ l0 bd bw bx w _ ?side1 ?side2 ?side3 A2.out).mono ?_); (case side1 => exact nbe HB); (case side2 => exact bB.out); (case side3 => exact bC.out); rintro e eo ⟨g316, rfl, hi, hb, hb2⟩; refine ⟨_, rfl, ?_⟩; have HI316 := Aside0.mk (hi); replace HB := Aside0.mk (hb); (try clear hb)) | ((with_reducible refine gate_callee (f := 48) rfl ?_); refine goesM (some 9) rfl rfl Try.func48 (by kernel_rfl) rfl #[.pointer (some ⟨g316, 0, none⟩)] rfl ?_; (with_reducible refine (spec_l6DrawCode.calls k g316 bd bw bx bb bn bo w _ ?side1 ?side2 A3.out).mono ?_); (case side1 => exact IsS81.n); (case side2 => exact IsS81.nb); rintro e ep ⟨bY, rfl, bs, hi, hb, hk⟩; refine ⟨_, rfl, ?_⟩; have bh := Aside0.mk (Kd.R_lower bs (below_size (IsS81.nb))); replace HB := Aside0.mk (hb); replace HI316 := Aside0.mk (hi); (try clear hb); (try clear bs); obtain ⟨er, es, dP⟩ := Kd.R_slice bh.out; subst dP) | ((with_reducible refine gate_callee (f := 46) rfl ?_); refine goesM (some 13) rfl rfl Try.func46 (by kernel_rfl) rfl #[.pointer (some ⟨g316, 0, none⟩), .int .i64 (bb.length : Int)] rfl ?_; (with_reducible refine (spec_l1Below.calls g316 bd bn bo (bb.length : Int) ba bp bq w _ ?side1 ?side2 A4.out).mono ?_); (case side1 => exact IsS81.n); (case side2 => exact IsS81.nb); rintro e et ⟨rfl, hi, hb, hk⟩; refine ⟨_, rfl, ?_⟩; replace bh := Aside0.mk (Kd.R_mono (Kd.R_keep (IsS81.apart (show IsS81 w _ g316 bd bn bo from IsS81.n) (nRo bh) (by decide)) hk (fun _ h => h.2)) (fun _ h => h.1)); replace HB := Aside0.mk (hb); replace HI316 := Aside0.mk (hi); (try clear hb)) | ((with_reducible refine gate_callee (f := 46) rfl ?_); refine goesM (some 15) rfl rfl Try.func46 (by kernel_rfl) rfl #[.pointer (some ⟨g316, 0, none⟩), .int .i64 6] rfl ?_; (with_reducible refine (spec_l1Below.calls g316 bd bp bq 6 bj bz bA w _ ?side1 ?side2 A5.out).mono ?_); (case side1 => exact IsS81.n); (case side2 => exact IsS81.nb); rintro e eu ⟨rfl, hi, hb, hk⟩; refine ⟨_, rfl, ?_⟩; replace bh := Aside0.mk (Kd.R_mono (Kd.R_keep (IsS81.apart (show IsS81 w _ g316 bd bp bq from IsS81.n) (nRo bh) (by decide)) hk (fun _ h => h.2)) (fun _ h => h.1)); replace HB := Aside0.mk (hb); replace HI316 := Aside0.mk (hi); (try clear hb)))
    go_loopg [4] k (fun kq v4 w' => ∃ (bm : List (S25)) (bJ : Int) (bK : Int), Aside0 (spec_DrawCodeOk.l0 kq bm bd bJ bK = some r) ∧ Aside0 (kq ≤ k) ∧ Aside0 (Kd.R k25 25 w' w.heap.size (fun _ => True) v4 bm) ∧ Aside0 (IsS81 w w' g316 bd bJ bK) ∧ Aside0 (Below w.heap.size w w'))
    case atStart => exact ⟨(bb), (bz), (bA), H', ⟨Nat.le_refl _⟩, ⟨by (with_reducible repeat (first | apply Kd.R_alloc | apply Kd.R_drewN | apply Kd.R_drew)); exact bh.out⟩, ⟨IsS81.n⟩, ⟨IsS81.nb⟩⟩
    case round =>
     clear H'; try clear c1
     try clear p1
     try clear q1
     try clear ev
     try clear hf1
     try clear c2
     try clear p2
     try clear q2
     try clear p3
     try clear q3
     try clear ew
     try clear c4
     try clear c6
     try clear c6b0
     try clear c6b1
     try clear c7
     try clear c7b0
     try clear c8
     try clear c8b0
     try clear c10
     try clear p10
     try clear q10
     try clear ex
     try clear hf10
     try clear c17
     try clear ey
     try clear hf17
     try clear c19
     try clear c19b0
     try clear c19b1
     try clear c20
     try clear c20b0
     try clear c20b1
     try clear c21
     try clear c21b0
     try clear c21b1
     try clear q27
     try clear c28
     try clear c28b0
     try clear c28b1
     try clear p32
     try clear q32
     try clear ez
     try clear dG
     try clear dH
     try clear dI
     try clear dJ
     try clear dK
     try clear dp
     try clear dq
     try clear dr
     try clear ds
     try clear dt
     try clear dd
     try clear de
     try clear df
     try clear dg
     try clear dh
     try clear p10
     try clear p328
     try clear q10
     try clear q27
     try clear q328
     obtain ⟨bm, bJ, bK, HA, dx, bv, HI316, HB⟩ := hrel
     cases gk with
     | zero => exact absurd HA.out (by simp [spec_DrawCodeOk.l0])
     | succ k1 =>
      have H := HA.out; clear HA; simp only [spec_DrawCodeOk.l0] at H; replace H := Option.bind_eq_some_iff.mp H; obtain ⟨⟨bO, bS, bT⟩, A340, H⟩ := H; replace H : (if (bm.length : Int) < (wrap64 (48 + bO)) then (if bm.length < 3518437208883 then (spec_DrawCodeOk.l0 k1 (bm ++ [(⟨15, 0, 0, 0, 0⟩ : S25)]) bd bS bT) else (none)) else (some bm)) = some r := H; have A34 := Aside0.mk A340; clear A340
      by_cases c35 : (bm.length : Int) < (wrap64 (48 + bO))
      ·rw [if_pos c35] at H
       have c35b0 : decide ((bm.length : Int) < (wrap64 (48 + bO))) = true := decide_eq_true c35; clear c35
       by_cases c36 : bm.length < 3518437208883
       ·rw [if_pos c36] at H
        have dQ := Aside0.mk c36; clear c36; obtain ⟨dy, bU⟩ : ∃ y_ : List (S25), y_ = (bm ++ [(⟨15, 0, 0, 0, 0⟩ : S25)]) := ⟨_, rfl⟩; replace H : (spec_DrawCodeOk.l0 k1 dy bd bS bT) = some r := by first | (rw [bU]; with_reducible exact H) | (have H2_ := (Option.bind_some _ _).symm.trans H; rw [bU]; with_reducible exact H2_) | (have H2_ := (Option.bind_some _ _).symm.trans H; with_reducible exact H2_) | with_reducible exact H | (rw [bU]; exact H) | exact H
        have dR := Aside0.mk bU; clear bU; have H' := Aside0.mk H; clear H; obtain ⟨dS, dT, dU⟩ := Kd.R_slice bv.out; subst dU
        go_wp2_with (first | ((with_reducible refine gate_callee (f := 46) rfl ?_); refine goesM (some 37) rfl rfl Try.func46 (by kernel_rfl) rfl #[.pointer (some ⟨g316, 0, none⟩), .int .i64 2] rfl ?_; (with_reducible refine (spec_l1Below.calls g316 bd bJ bK 2 bO bS bT w _ ?side1 ?side2 A34.out).mono ?_); (case side1 => exact IsS81.n); (case side2 => exact IsS81.nb); rintro e eA ⟨rfl, hi, hb, hk⟩; refine ⟨_, rfl, ?_⟩; replace bv := Aside0.mk (Kd.R_mono (Kd.R_keep (IsS81.apart (show IsS81 w _ g316 bd bJ bK from IsS81.n) (nRo bv) (by decide)) hk (fun _ h => h.2)) (fun _ h => h.1)); replace HB := Aside0.mk (hb); replace HI316 := Aside0.mk (hi); (try clear hb)) | ((with_reducible refine gate_builtin (b := .append) (xs := #[.tmp 40, .tmp 42]) rfl ?_); at_builtin; refine Kd.R_append k25 (w0 := w) w.heap.size rfl (.tmp 40) (.tmp 42) 38 25 (.agg #[(.int .i64 0), (.int .i64 0), (.int .i64 0), (.int .i64 0), (.int .i64 0)]) 40 rfl Try.underlying38 info25 rfl (by decide) (by omega) (.slice dS bm.length dT) bm (⟨15, 0, 0, 0, 0⟩ : S25) [.int .i64 15, .int .i64 0, .int .i64 0, .int .i64 0, .int .i64 0] (fun _ => True) (fun _ => False) rfl rfl ?aP (fun _ hk => hk.elim) ?aF ?aO ?aB ?aS ?aL ?_; (case aP => exact k25_mkM _ _ _ (⟨15, 0, 0, 0, 0⟩ : S25)); (case aB => exact (IsS81.nb)); (case aF => exact (fun _ _ => trivial)); (case aO => exact (nRo bv)); (case aS => exact (below_size (IsS81.nb))); (case aL => have := dQ.out; omega); intro eB eC ho hb hg hat; rw [← dR.out] at ho; have dV := Aside0.mk (ho); replace HI316 := Aside0.mk (IsS81.grown (IsS81.n) hg (IsS81.own_ne HI316.out bv.out (by decide))); replace HB := Aside0.mk (hb); clear bv; clear ho hb hg hat))
        go_roundg k1
        case measure => have := dx.out; omega
        case rel => exact ⟨(dy), (bS), (bT), H', ⟨by have := dx.out; omega⟩, ⟨by (with_reducible repeat (first | apply Kd.R_alloc | apply Kd.R_drewN | apply Kd.R_drew)); exact dV.out⟩, ⟨IsS81.n⟩, ⟨IsS81.nb⟩⟩
       ·rw [if_neg c36] at H
        exact absurd H (by simp)
      ·rw [if_neg c35] at H
       have c35b0 : decide ((bm.length : Int) < (wrap64 (48 + bO))) = false := decide_eq_false c35; clear c35; obtain rfl := Option.some.inj H; obtain ⟨eD, eE, dW⟩ := Kd.R_slice bv.out; subst dW
       go_wp2_with (first | ((with_reducible refine gate_callee (f := 46) rfl ?_); refine goesM (some 37) rfl rfl Try.func46 (by kernel_rfl) rfl #[.pointer (some ⟨g316, 0, none⟩), .int .i64 2] rfl ?_; (with_reducible refine (spec_l1Below.calls g316 bd bJ bK 2 bO bS bT w _ ?side1 ?side2 A34.out).mono ?_); (case side1 => exact IsS81.n); (case side2 => exact IsS81.nb); rintro e eF ⟨rfl, hi, hb, hk⟩; refine ⟨_, rfl, ?_⟩; replace bv := Aside0.mk (Kd.R_mono (Kd.R_keep (IsS81.apart (show IsS81 w _ g316 bd bJ bK from IsS81.n) (nRo bv) (by decide)) hk (fun _ h => h.2)) (fun _ h => h.1)); replace HB := Aside0.mk (hb); replace HI316 := Aside0.mk (hi); (try clear hb)))
       go_ret
       exact ⟨_, er_, by (with_reducible repeat (first | apply Kd.R_alloc | apply Kd.R_drewN | apply Kd.R_drew)); exact bv.out, IsS81.nb⟩
   ·rw [if_neg c28] at H
    have c28b0 : (bj == 2) = false := beq_eq_false_iff_ne.mpr c28; have c28b1 : (bj != 2) = true := bne_iff_ne.mpr c28; obtain rfl := Option.some.inj H
    go_enter Try.func28, Try.ntmps28
    go_wp2_with (first | ((with_reducible refine gate_callee (f := 44) rfl ?_); refine goesM (some 7) rfl rfl Try.func44 (by kernel_rfl) rfl #[.slice A0 l0.length c0] rfl ?_; (with_reducible refine (spec_l1New.calls k _ _ l0 bd bw bx w _ ?side1 ?side2 ?side3 A2.out).mono ?_); (case side1 => exact nbe HB); (case side2 => exact bB.out); (case side3 => exact bC.out); rintro e eG ⟨g316, rfl, hi, hb, hb2⟩; refine ⟨_, rfl, ?_⟩; have HI316 := Aside0.mk (hi); replace HB := Aside0.mk (hb); (try clear hb)) | ((with_reducible refine gate_callee (f := 48) rfl ?_); refine goesM (some 9) rfl rfl Try.func48 (by kernel_rfl) rfl #[.pointer (some ⟨g316, 0, none⟩)] rfl ?_; (with_reducible refine (spec_l6DrawCode.calls k g316 bd bw bx bb bn bo w _ ?side1 ?side2 A3.out).mono ?_); (case side1 => exact IsS81.n); (case side2 => exact IsS81.nb); rintro e eH ⟨bY, rfl, bs, hi, hb, hk⟩; refine ⟨_, rfl, ?_⟩; have bh := Aside0.mk (Kd.R_lower bs (below_size (IsS81.nb))); replace HB := Aside0.mk (hb); replace HI316 := Aside0.mk (hi); (try clear hb); (try clear bs); obtain ⟨eI, eJ, dX⟩ := Kd.R_slice bh.out; subst dX) | ((with_reducible refine gate_callee (f := 46) rfl ?_); refine goesM (some 13) rfl rfl Try.func46 (by kernel_rfl) rfl #[.pointer (some ⟨g316, 0, none⟩), .int .i64 (bb.length : Int)] rfl ?_; (with_reducible refine (spec_l1Below.calls g316 bd bn bo (bb.length : Int) ba bp bq w _ ?side1 ?side2 A4.out).mono ?_); (case side1 => exact IsS81.n); (case side2 => exact IsS81.nb); rintro e eK ⟨rfl, hi, hb, hk⟩; refine ⟨_, rfl, ?_⟩; replace bh := Aside0.mk (Kd.R_mono (Kd.R_keep (IsS81.apart (show IsS81 w _ g316 bd bn bo from IsS81.n) (nRo bh) (by decide)) hk (fun _ h => h.2)) (fun _ h => h.1)); replace HB := Aside0.mk (hb); replace HI316 := Aside0.mk (hi); (try clear hb)) | ((with_reducible refine gate_callee (f := 46) rfl ?_); refine goesM (some 15) rfl rfl Try.func46 (by kernel_rfl) rfl #[.pointer (some ⟨g316, 0, none⟩), .int .i64 6] rfl ?_; (with_reducible refine (spec_l1Below.calls g316 bd bp bq 6 bj bz bA w _ ?side1 ?side2 A5.out).mono ?_); (case side1 => exact IsS81.n); (case side2 => exact IsS81.nb); rintro e eL ⟨rfl, hi, hb, hk⟩; refine ⟨_, rfl, ?_⟩; replace bh := Aside0.mk (Kd.R_mono (Kd.R_keep (IsS81.apart (show IsS81 w _ g316 bd bp bq from IsS81.n) (nRo bh) (by decide)) hk (fun _ h => h.2)) (fun _ h => h.1)); replace HB := Aside0.mk (hb); replace HI316 := Aside0.mk (hi); (try clear hb)))
    go_ret
    exact ⟨_, er_, by (with_reducible repeat (first | apply Kd.R_alloc | apply Kd.R_drewN | apply Kd.R_drew)); exact bh.out, IsS81.nb⟩

/-! ### spec_DrawSets: function 29 -/
def spec_DrawSets.f (k : Nat) (l0 : List Int) : Option (Int × Int × Int × Int × Int) := (spec_l6DrawOne.f k l0).bind fun bt => (some (bt.1, bt.2.1, bt.2.2.1, bt.2.2.2.1, bt.2.2.2.2))
theorem spec_DrawSets.mono : ∀ a0 k, LeO (spec_DrawSets.f k a0) (spec_DrawSets.f (k + 1) a0) := by
 intro a0 k
 unfold spec_DrawSets.f
 repeat' first
   | (with_reducible exact spec_l6DrawOne.mono _ _)
   | (with_reducible exact LeO.refl _)
   | (with_reducible exact LeO.none _)
   | (with_reducible refine LeO.ite ?_ ?_)
   | (with_reducible refine LeO.bind ?_ (fun _ => ?_))
   | exact spec_l6DrawOne.mono _ _
   | exact LeO.none _
   | refine LeO.ite ?_ ?_
   | refine LeO.bind ?_ (fun _ => ?_)
set_option maxHeartbeats 8000000 in
set_option maxRecDepth 100000 in
theorem spec_DrawSets.calls (k : Nat) (A0 : Option Addr) (c0 : Nat) (l0 : List Int) (r1 : Int) (r2 : Int) (r3 : Int) (r4 : Int) (r5 : Int) (w : World) (hr0 : Kd.C (Kd.int .u8) w A0 l0.length l0) (hc0 : l0.length ≤ c0) (h : spec_DrawSets.f k l0 = some (r1, r2, r3, r4, r5)) :
  Calls Try.prog 29 #[.slice A0 l0.length c0] w fun e w' => e = .returned (.agg #[.int .i64 r1, .int .i64 r2, .int .i64 r3, .int .i64 r4, .int .i64 r5]) ∧ Below w.heap.size w w' := by
 have hu25 := Try.underlying25; have bB := Aside0.mk hr0; have bC := Aside0.mk hc0; clear hr0 hc0; have HB := Aside0.mk (Below.refl w.heap.size w); have H : ((spec_l6DrawOne.f k l0).bind fun bt => (some (bt.1, bt.2.1, bt.2.2.1, bt.2.2.2.1, bt.2.2.2.2))) = some (r1, r2, r3, r4, r5) := h; clear h; replace H := Option.bind_eq_some_iff.mp H; obtain ⟨⟨b0, b1, b2, b3, b4⟩, A20, H⟩ := H; replace H : (some (b0, b1, b2, b3, b4)) = some (r1, r2, r3, r4, r5) := H; have A2 := Aside0.mk A20; clear A20; simp only [Option.some.injEq, Prod.mk.injEq] at H; obtain ⟨rfl, rfl, rfl, rfl, rfl⟩ := H
 go_enter Try.func29, Try.ntmps29
 go_wp2_with (first | ((with_reducible refine gate_dst (N := 2) rfl ?_); refine bxe 2 #[.int .i64 0, .int .i64 0, .int .i64 0, .int .i64 0, .int .i64 0] 25 ?_; intro dY hg w3 hbox hb; have bV := hbox; have eM := nge HB hg; have eN := nge HB hg; replace HB := nbs HB hb; clear hb hbox hg) | ((with_reducible refine gate_callee (f := 43) rfl ?_); refine goesM (some 4) rfl rfl Try.func43 (by kernel_rfl) rfl #[.slice A0 l0.length c0] rfl ?_; (with_reducible refine (spec_l6DrawOne.calls k _ _ l0 b0 b1 b2 b3 b4 _ ?side1 ?side2 A2.out).mono ?_); (case side1 => exact nCb bB HB); (case side2 => exact bC.out); rintro e w4 ⟨rfl, hb⟩; refine ⟨_, rfl, ?_⟩; replace bV := nblk bV hb; replace HB := nbs HB hb; (try clear hb); obtain ⟨dZ, d0, d1, d2, d3⟩ := c5e bV; obtain ⟨d4, d5, d6, d7, d8⟩ := z5_ bV))
 refine bodyPost_ret (results_cell_row rfl _ _ dY 25 #[.int .i64 b0, .int .i64 b1, .int .i64 b2, .int .i64 b3, .int .i64 b4] (0, 0) _ rfl (q5 bV) Try.underlying25 rfl (by kernel_rfl)) rfl ?_; exact ⟨er_, nbe HB⟩

/-! ### spec_DrawInsOk: function 30 -/
def spec_DrawInsOk.f (k : Nat) (l0 : List Int) : Option (Int × Int × Int × Int × Int) := (spec_l6DrawOne.f k l0).bind fun bu => (some (bu.1, bu.2.1, bu.2.2.1, bu.2.2.2.1, bu.2.2.2.2))
theorem spec_DrawInsOk.mono : ∀ a0 k, LeO (spec_DrawInsOk.f k a0) (spec_DrawInsOk.f (k + 1) a0) := by
 intro a0 k
 unfold spec_DrawInsOk.f
 repeat' first
   | (with_reducible exact spec_l6DrawOne.mono _ _)
   | (with_reducible exact LeO.refl _)
   | (with_reducible exact LeO.none _)
   | (with_reducible refine LeO.ite ?_ ?_)
   | (with_reducible refine LeO.bind ?_ (fun _ => ?_))
   | exact spec_l6DrawOne.mono _ _
   | exact LeO.none _
   | refine LeO.ite ?_ ?_
   | refine LeO.bind ?_ (fun _ => ?_)
set_option maxHeartbeats 8000000 in
set_option maxRecDepth 100000 in
theorem spec_DrawInsOk.calls (k : Nat) (A0 : Option Addr) (c0 : Nat) (l0 : List Int) (r1 : Int) (r2 : Int) (r3 : Int) (r4 : Int) (r5 : Int) (w : World) (hr0 : Kd.C (Kd.int .u8) w A0 l0.length l0) (hc0 : l0.length ≤ c0) (h : spec_DrawInsOk.f k l0 = some (r1, r2, r3, r4, r5)) :
  Calls Try.prog 30 #[.slice A0 l0.length c0] w fun e w' => e = .returned (.agg #[.int .i64 r1, .int .i64 r2, .int .i64 r3, .int .i64 r4, .int .i64 r5]) ∧ Below w.heap.size w w' := by
 have hu25 := Try.underlying25; have bB := Aside0.mk hr0; have bC := Aside0.mk hc0; clear hr0 hc0; have HB := Aside0.mk (Below.refl w.heap.size w); have H : ((spec_l6DrawOne.f k l0).bind fun bu => (some (bu.1, bu.2.1, bu.2.2.1, bu.2.2.2.1, bu.2.2.2.2))) = some (r1, r2, r3, r4, r5) := h; clear h; replace H := Option.bind_eq_some_iff.mp H; obtain ⟨⟨b5, b6, b7, b8, b9⟩, A20, H⟩ := H; replace H : (some (b5, b6, b7, b8, b9)) = some (r1, r2, r3, r4, r5) := H; have A2 := Aside0.mk A20; clear A20; simp only [Option.some.injEq, Prod.mk.injEq] at H; obtain ⟨rfl, rfl, rfl, rfl, rfl⟩ := H
 go_enter Try.func30, Try.ntmps30
 go_wp2_with (first | ((with_reducible refine gate_dst (N := 2) rfl ?_); refine bxe 2 #[.int .i64 0, .int .i64 0, .int .i64 0, .int .i64 0, .int .i64 0] 25 ?_; intro d9 hg w3 hbox hb; have bW := hbox; have eO := nge HB hg; have eP := nge HB hg; replace HB := nbs HB hb; clear hb hbox hg) | ((with_reducible refine gate_callee (f := 43) rfl ?_); refine goesM (some 4) rfl rfl Try.func43 (by kernel_rfl) rfl #[.slice A0 l0.length c0] rfl ?_; (with_reducible refine (spec_l6DrawOne.calls k _ _ l0 b5 b6 b7 b8 b9 _ ?side1 ?side2 A2.out).mono ?_); (case side1 => exact nCb bB HB); (case side2 => exact bC.out); rintro e w4 ⟨rfl, hb⟩; refine ⟨_, rfl, ?_⟩; replace bW := nblk bW hb; replace HB := nbs HB hb; (try clear hb); obtain ⟨dZ, d0, d1, d2, d3⟩ := c5e bW; obtain ⟨d4, d5, d6, d7, d8⟩ := z5_ bW))
 refine bodyPost_ret (results_cell_row rfl _ _ d9 25 #[.int .i64 b5, .int .i64 b6, .int .i64 b7, .int .i64 b8, .int .i64 b9] (0, 0) _ rfl (q5 bW) Try.underlying25 rfl (by kernel_rfl)) rfl ?_; exact ⟨er_, nbe HB⟩

end Go.Proofs.Ytopbiecjfhfhdaa.PFnCodes
