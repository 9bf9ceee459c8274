/- The effect for good, safely. -/
import Derived.Test.YtpcladboobfkhaaPFnWorkx42
import Derived.Test.YtpcladboobfkhaaPFnWorkx43
namespace Go.Proofs.Ytpcladboobfkhaa.PFnWork
open Go.Proofs.Ytpcladboobfkhaa.Pure hiding stM
open Go.RowKit Go.Proofs.YtpcladboobfkhaaW.PrintWords Go.Proofs.YtpcladboobfkhaaW.PrintLast Go.Proofs.YtpcladboobfkhaaW.PrintMore Go.Proofs.YtpcladboobfkhaaW.Mine
attribute [local go_sem] dsc dhs dha ddr ddrN ddz ddc nn2 nn3 nn4 nn5 nn6 nn7 nn8 nn9
attribute [local go_sem] max2_int min2_int max_two min_two max_three min_three max_four min_four
set_option linter.unusedVariables false
set_option linter.unusedSimpArgs false
theorem stM_mk {l : List S29} {n : Int} {i : Bool} {b t p s : Int} {m : List S29} {g : List Bool} {tr : Int} (h1 : l.length = 8) (h2 : l.all wOkT = true) (h3 : wOk n i b t p s = true) (h4 : m.length = 24) (h5 : m.all wOkT = true) (h6 : g.length = 24) (h7 : 0 ≤ tr ∧ tr ≤ 5) : Pure.stM l n i b t p s m g tr = true := by
  unfold Pure.stM memM
  simp only [Bool.and_eq_true, decide_eq_true_eq]
  exact ⟨h1, h2, h3, ⟨⟨h4, h6⟩, h5⟩, h7⟩
theorem stM_tr {l : List S29} {n : Int} {i : Bool} {b t p s : Int} {m : List S29} {g : List Bool} {tr : Int} (h : Pure.stM l n i b t p s m g tr = true) : 0 ≤ tr ∧ tr ≤ 5 := by
  unfold Pure.stM memM at h
  simp only [Bool.and_eq_true, decide_eq_true_eq] at h
  exact h.2.2.2.2
set_option maxHeartbeats 8000000 in
set_option maxRecDepth 100000 in
theorem spec_l9Apply.safe {w : World} {gr cr gw cw gg cg : Nat} {xs ms : List S29} {bs : List Bool} {n : Int} {ib : Bool} {b t p s tr f0 f1 f2 : Int} {f3 : Bool} {f4 f5 f6 f7 f8 : Int} {f9 : Bool} {f10 f11 f12 f13 f14 f15 : Int} {f16 : Bool} {f17 f18 f19 f20 f21 : Int}
    (hr : RG k29 29 w gr cr xs) (hw : RG k29 29 w gw cw ms) (hg : RG Kd.bool 4 w gg cg bs) (d1 : gr ≠ gw) (d2 : gr ≠ gg) (d3 : gw ≠ gg) (hst : Pure.stM xs n ib b t p s ms bs tr = true) (hv : wOk f2 f3 f4 f5 f6 f7 = true) (hn : wOk f8 f9 f10 f11 f12 f13 = true) (hp : wOk f15 f16 f17 f18 f19 f20 = true) :
    Calls Try.prog 91 #[.agg #[.slice (some ⟨gr, 0, none⟩) xs.length cr, .int .i64 n, .bool ib, .int .i64 b, .int .i64 t, .int .i64 p, .int .i64 s, .slice (some ⟨gw, 0, none⟩) ms.length cw, .slice (some ⟨gg, 0, none⟩) bs.length cg, .int .i64 tr], .agg #[.int .i64 f0, .int .i64 f1, .int .i64 f2, .bool f3, .int .i64 f4, .int .i64 f5, .int .i64 f6, .int .i64 f7, .int .i64 f8, .bool f9, .int .i64 f10, .int .i64 f11, .int .i64 f12, .int .i64 f13, .int .i64 f14, .int .i64 f15, .bool f16, .int .i64 f17, .int .i64 f18, .int .i64 f19, .int .i64 f20, .int .i64 f21]] w fun e w' => e = .returned (.agg #[.slice (some ⟨gr, 0, none⟩) xs.length cr, .int .i64 f8, .bool f9, .int .i64 f10, .int .i64 f11, .int .i64 f12, .int .i64 f13, .slice (some ⟨gw, 0, none⟩) ms.length cw, .slice (some ⟨gg, 0, none⟩) bs.length cg, .int .i64 tr]) ∧
      (∃ xs' : List S29, xs'.length = xs.length ∧ xs'.all wOkT = true ∧ RG k29 29 w' gr cr xs') ∧ (∃ ms' : List S29, ms'.length = ms.length ∧ ms'.all wOkT = true ∧ RG k29 29 w' gw cw ms') ∧ (∃ bs' : List Bool, bs'.length = bs.length ∧ RG Kd.bool 4 w' gg cg bs') ∧
      KO [gr, gw, gg] w w' ∧ ∀ w0 : World, w0.heap.size ≤ gr → w0.heap.size ≤ gw → w0.heap.size ≤ gg → Below w0.heap.size w0 w → Below w0.heap.size w0 w' := by
 obtain ⟨q1, q2, q3, q4, q5, q6⟩ := stM_parts hst
 have hu60 := Try.underlying60; have hu29 := Try.underlying29; have hu33 := Try.underlying33; have hu58 := Try.underlying58
 have l1 : 8 ≤ xs.length ∧ xs.length ≤ 8 := by omega
 have l2 : 24 ≤ ms.length ∧ ms.length ≤ 24 := by omega
 have l3 : 24 ≤ bs.length ∧ bs.length ≤ 24 := by omega
 have hst := Aside0.mk hst; have hv := Aside0.mk hv; have hn := Aside0.mk hn; have hp := Aside0.mk hp; have q2 := Aside0.mk q2; have q5 := Aside0.mk q5
 have y1 := dz1 (n := gr) hr.lt; have y2 := dz1 (n := gw) hw.lt; have y3 := dz1 (n := gg) hg.lt
 clear q1 q3 q4 q6
 have d1' := d1.symm; have d2' := d2.symm; have d3' := d3.symm
 by_cases c1 : 0 ≤ f1 ∧ f1 ≤ 7 <;> by_cases c2 : 0 ≤ f14 ∧ f14 ≤ 23 <;> by_cases c3 : 0 ≤ f21 ∧ f21 ≤ 23
 all_goals
  (try (have e1 := hr.w6 f1 (by omega) (by omega); have g1 : decide (0 ≤ f1) = true := decide_eq_true (by omega); have h1 : decide (f1 < (xs.length : Int)) = true := decide_eq_true (by omega)))
  (try (have e2 := hw.w6 f14 (by omega) (by omega); have g2 : decide (0 ≤ f14) = true := decide_eq_true (by omega); have h2 : decide (f14 < (ms.length : Int)) = true := decide_eq_true (by omega)))
  (try (obtain ⟨⟨b0, e3⟩, e4⟩ := hg.b1 f21 (by omega) (by omega); have g3 : decide (0 ≤ f21) = true := decide_eq_true (by omega); have h3 : decide (f21 < (bs.length : Int)) = true := decide_eq_true (by omega)))
  have c1 := Aside0.mk c1; have c2 := Aside0.mk c2; have c3 := Aside0.mk c3
  go_enter Try.func91, Try.ntmps91
  go_wp2_with (first
   | (go_at_call 32; (with_reducible refine (in32t (Aside0.out (by assumption))).mono ?_); rintro e w' ⟨rfl, ⟨nd_, rfl⟩⟩)
   | (go_at_call 32; (with_reducible refine (in32f (Aside0.out (by assumption))).mono ?_); rintro e w' ⟨rfl, ⟨nd_, rfl⟩⟩))
  refine bodyPost_ret (drc rfl _ _ rfl (by go_simp; rfl)) rfl ?_
  refine ⟨rfl, ?_, ?_, ?_, dKO, fun w0 _ _ _ hb => dBe⟩
  · first | exact ⟨xs.set f1.toNat ⟨f2, f3, ⟨f4, f5, f6, f7⟩⟩, List.length_set, all_set _ _ _ q2.out hv.out, dRG⟩ | exact ⟨xs, rfl, q2.out, dRG⟩
  · first | exact ⟨ms.set f14.toNat ⟨f15, f16, ⟨f17, f18, f19, f20⟩⟩, List.length_set, all_set _ _ _ q5.out hp.out, dRG⟩ | exact ⟨ms, rfl, q5.out, dRG⟩
  · first | exact ⟨bs.set f21.toNat true, List.length_set, dRG⟩ | exact ⟨bs, rfl, dRG⟩
end Go.Proofs.Ytpcladboobfkhaa.PFnWork
