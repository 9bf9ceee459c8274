/- A drawn state, safely. -/
import Derived.Test.YtpcladboobfkhaaPFnWorkx47
import Derived.Test.YtpcladboobfkhaaPFnWorkx48
import Derived.Test.YtpcladboobfkhaaPFnWorkx49
namespace Go.Proofs.Ytpcladboobfkhaa.PFnWork
open Go.Proofs.Ytpcladboobfkhaa.Pure hiding stM
open Go.RowKit Go.Proofs.YtpcladboobfkhaaW.PrintWords Go.Proofs.YtpcladboobfkhaaW.PrintLast Go.Proofs.YtpcladboobfkhaaW.PrintMore Go.Proofs.YtpcladboobfkhaaW.Mine
attribute [local go_sem] dsc dhs dha ddr ddrN ddz ddc nn2 nn3 nn4 nn5 nn6 nn7 nn8 nn9
attribute [local go_sem] max2_int min2_int max_two min_two max_three min_three max_four min_four
set_option linter.unusedVariables false
set_option linter.unusedSimpArgs false
def DSV (w w' : World) (v : Value) : Prop := ∃ gl cl, ∃ l : List S25, ∃ sv, v = .tuple #[.slice (some ⟨gl, 0, none⟩) l.length cl, sv] ∧ 1 ≤ l.length ∧ l.length ≤ 101 ∧ RG k25 25 w' gl cl l ∧ w.heap.size ≤ gl ∧ SOK w w' sv
def spec_l9DrawState.T5 : Bool × List (List Nat × List Nat) := (true, [([], []), ([0], [0]), ([], []), ([2], [2]), ([3], [3]), ([], []), ([5, 3], [5]), ([1, 4, 0, 1, 2, 3, 4, 5, 6], [1, 4]), ([7, 6, 6, 0, 1, 2, 3, 4, 5, 6], [6, 7])])
def spec_l9DrawState.B5 : List Nat := [0, 1, 0, 4, 12, 0, 44, 127, 255]
theorem spec_l9DrawState.tab5 : rtab .any (opsOf Try.f60 5) = spec_l9DrawState.T5 := by kernel_rfl
theorem spec_l9DrawState.bits5 : waitsOk spec_l9DrawState.T5.2 spec_l9DrawState.B5 = true := by kernel_rfl
def spec_l9DrawState.T13 : Bool × List (List Nat × List Nat) := (true, [([], []), ([], []), ([0, 0], [0]), ([1, 2, 0, 1, 2], [1])])
def spec_l9DrawState.B13 : List Nat := [0, 0, 1, 7]
theorem spec_l9DrawState.tab13 : rtab .any (opsOf Try.f60 13) = spec_l9DrawState.T13 := by kernel_rfl
theorem spec_l9DrawState.bits13 : waitsOk spec_l9DrawState.T13.2 spec_l9DrawState.B13 = true := by kernel_rfl
def DSR (w0 w : World) (g gl cl b5 : Nat) (l : List S25) (w' : World) : Prop := ∃ gr cr gw cw gg cg, ∃ xs ms : List S29, ∃ bs : List Bool, ∃ n ib b t p s, BX w' b5 #[.slice (some ⟨gr, 0, none⟩) xs.length cr, .int .i64 n, .bool ib, .int .i64 b, .int .i64 t, .int .i64 p, .int .i64 s, .slice (some ⟨gw, 0, none⟩) ms.length cw, .slice (some ⟨gg, 0, none⟩) bs.length cg, .int .i64 0] 60 ∧
  BX w' w.heap.size #[.slice none 0 0, .int .i64 0, .bool false, .int .i64 0, .int .i64 0, .int .i64 0, .int .i64 0, .slice none 0 0, .slice none 0 0, .int .i64 0] 60 ∧ Pure.stM xs n ib b t p s ms bs 0 = true ∧ RG k29 29 w' gr cr xs ∧ RG k29 29 w' gw cw ms ∧ RG Kd.bool 4 w' gg cg bs ∧ RG k25 25 w' gl cl l ∧ gr ≠ gw ∧ w.heap.size < gr ∧ w.heap.size < gw ∧ w.heap.size < gg ∧ gr ≠ b5 ∧ gw ≠ b5 ∧ gg ≠ b5 ∧ CI w0 w' g ∧ KeepBut w w' g none
theorem bxf {W : World} {b : Nat} {cs : Array Value} {t : TypeId} (h : BX W b cs t) : (∀ j, W.cell? ⟨b, j, none⟩ = cs[j]?) ∧ (∀ j, W.frozen? ⟨b, j, none⟩ = false) ∧ b < W.heap.size := ⟨fun j => blk_cell h j, fun j => blk_frozen h j, blk_lt h⟩
set_option maxHeartbeats 8000000 in
set_option maxRecDepth 100000 in
theorem spec_l9DrawState.safe : SC 60 [] DSV := by
 intro w0 w g hI
 have hu60 := Try.underlying60; have hu29 := Try.underlying29; have hu58 := Try.underlying58
 have zg := dz1 (n := g) hI.lt; have hw0 := hI.bel.size; have hI := Aside0.mk hI
 show Calls Try.prog 60 #[.pointer (some ⟨g, 0, none⟩)] w _
 go_enter Try.func60, Try.ntmps60
 go_wp2_with (first
  | (go_at_call 77; (with_reducible refine SC.go (w0 := w0) sc77 ?_); rintro _ x1 ⟨gl, cl, l, rfl, l1, l2, rl, gl0⟩ hi hk hs hd; have z := dz1 (n := w.heap.size) hs; have zg := dz1 (n := g) hs; have vl := dz1 (n := gl) rl.lt; have ul := dz1 (n := w.heap.size) gl0; have kl := dz1 (n := g) gl0)
  | (go_at_call 78; (with_reducible refine dmv spec_StateNew.safe ?_); rintro _ x2 ⟨gr, cr, gw, cw, gg, cg, xs, ms, bs, n, ib, b, t, p, s, rfl, hst, r1, r2, r3, ne, g1, g2, g3⟩ hb hd; replace hst := Aside0.mk hst; have z := dz1 (n := w.heap.size) hb.size; have zg := dz1 (n := g) hb.size; have vl := dz1 (n := gl) hb.size; have v1 := dz1 (n := gr) r1.lt; have v2 := dz1 (n := gw) r2.lt; have v3 := dz1 (n := gg) r3.lt; have u1 := dz1 (n := w.heap.size) g1; have u2 := dz1 (n := w.heap.size) g2; have u3 := dz1 (n := w.heap.size) g3; have k1 := dz1 (n := g) g1; have k2 := dz1 (n := g) g2; have k3 := dz1 (n := g) g3)
  | (go_at_call 17; (with_reducible refine SC.go (w0 := w0) (sc17 2 (by decide)) ?_); rintro _ x3 ⟨b3, rfl⟩ hi hk hs hd; have z := dz1 (n := w.heap.size) hs; have zg := dz1 (n := g) hs; have vl := dz1 (n := gl) hs; have v1 := dz1 (n := gr) hs; have v2 := dz1 (n := gw) hs; have v3 := dz1 (n := gg) hs; have y2 := dz1 (n := x2.heap.size) hs; cases b3)
  | (go_at_call 79; (with_reducible refine SC.go (w0 := w0) sc79 ?_); rintro _ x4 ⟨gw4, cw4, gg4, cg4, ms4, bs4, rfl, m1, m2, m3, r4, r5, g4, g5⟩ hi hk hs hd; replace m1 := Aside0.mk m1; replace m2 := Aside0.mk m2; replace m3 := Aside0.mk m3; have z := dz1 (n := w.heap.size) hs; have zg := dz1 (n := g) hs; have vl := dz1 (n := gl) hs; have v1 := dz1 (n := gr) hs; have v2 := dz1 (n := gw4) r4.lt; have v3 := dz1 (n := gg4) r5.lt; have y2 := dz1 (n := x2.heap.size) hs; have u4 := dz1 (n := x2.heap.size) g4; have u5 := dz1 (n := x2.heap.size) g5; have u6 := dz1 (n := gr) g4; have u7 := dz1 (n := g) g4; have u8 := dz1 (n := g) g5; have u9 := dz1 (n := w.heap.size) g4; have u10 := dz1 (n := w.heap.size) g5)
  | (go_at_call 16; (with_reducible refine SC.go (w0 := w0) (sc16 10 (by decide)) ?_); rintro _ x7 ⟨n7, rfl, hn7⟩ hi hk hs hd; have z := dz1 (n := w.heap.size) hs; have zg := dz1 (n := g) hs; have vl := dz1 (n := gl) hs; have v1 := dz1 (n := gr) hs; have v2 := dz1 (n := gw) hs; have v3 := dz1 (n := gg) hs; have y2 := dz1 (n := x2.heap.size) hs))
 rotate_left
 refine dst 0 (some g) [8] (ml [0, 9]) spec_l9DrawState.tab5 spec_l9DrawState.bits5 (fun HT_ HW_ hH => ?_)
 refine rP HT_.out 0 17 (ml [1, 8]) ?_
 refine rP HT_.out 2 19 (ml [1, 1, 1, 6]) ?_
 refine rP HT_.out 5 22 (ml [1, 1, 1, 2, 1, 3]) ?_
 refine dT HT_.out HW_.out hH 1 18 (ml [3, 2, 1, 3]) ?_
 refine dC HT_.out 3 (some 20) (ml [4, 1, 1, 3]) Try.func16 #[.pointer (some ⟨g, 0, none⟩), .int .i64 4] ?_
 (with_reducible refine SC.go (w0 := w0) (sc16 4 (by decide)) ?_); rintro _ x5 ⟨n5, rfl, hn5⟩ hi hk hs hd; have hw5 : wrap64 (1 + n5) = 1 + n5 := wrap_in (by omega) (by omega); have z := dz1 (n := w.heap.size) hs; have zg := dz1 (n := g) hs; have vl := dz1 (n := gl) hs; have v1 := dz1 (n := gr) hs; have v2 := dz1 (n := gw4) hs; have v3 := dz1 (n := gg4) hs; have y2 := dz1 (n := x2.heap.size) hs
 refine ⟨_, rfl, dSB hH, fun hH => dN ?_⟩
 refine rP HT_.out 4 21 (ml [6, 3]) ?_
 refine dC HT_.out 6 (some 23) (ml [7, 2]) Try.func42 #[.pointer (some ⟨g, 0, none⟩)] ?_
 (with_reducible refine SC.go (w0 := w0) sc42 ?_); rintro _ x6 ⟨d1, d2, d3, d4, d5, d6, rfl, o1⟩ hi hk hs hd; replace o1 := Aside0.mk o1; have z := dz1 (n := w.heap.size) hs; have zg := dz1 (n := g) hs; have vl := dz1 (n := gl) hs; have v1 := dz1 (n := gr) hs; have v2 := dz1 (n := gw4) hs; have v3 := dz1 (n := gg4) hs; have y2 := dz1 (n := x2.heap.size) hs
 refine ⟨_, rfl, dSB hH, fun hH => dN ?_⟩
 have q1 := Aside0.mk (stM_parts hst.out).1
 have ix := dix (i := 1 + n5) (n := xs.length) (by omega) (by have := q1.out; omega)
 have e1 := r1.w6 (1 + n5) (by omega) (by have := q1.out; omega)
 refine rP HT_.out 7 24 (ml [8, 1]) ?_
 refine dL HT_.out 8 (ml [9]) ?_
 refine done_ (done_of HT_.out (by kernel_rfl)) ?_
 go_wp2_with (first
  | (go_at_call 16; (with_reducible refine SC.go (w0 := w0) (sc16 10 (by decide)) ?_); rintro _ x7 ⟨n7, rfl, hn7⟩ hi hk hs hd; have z := dz1 (n := w.heap.size) hs; have zg := dz1 (n := g) hs; have vl := dz1 (n := gl) hs; have v1 := dz1 (n := gr) hs; have v2 := dz1 (n := gw4) hs; have v3 := dz1 (n := gg4) hs; have y2 := dz1 (n := x2.heap.size) hs))
 have hR : DSR w0 w g gl cl x2.heap.size l x7 := ⟨gr, cr, gw4, cw4, gg4, cg4, xs.set (1 + n5).toNat ⟨d1, d2, ⟨d3, d4, d5, d6⟩⟩, ms4, bs4, n, ib, b, t, p, s, (by simp only [List.length_set]; show dhp _ _ = _; go_simp), (by show dhp _ _ = _; go_simp), stM_upd hst.out (by rw [List.length_set]; exact (stM_parts hst.out).1) (all_set xs _ ⟨d1, d2, ⟨d3, d4, d5, d6⟩⟩ (stM_parts hst.out).2.1 o1.out) m1.out m2.out m3.out, dRG, dRG, dRG, dRG, by omega, by omega, by omega, by omega, by omega, by omega, by omega, dCI, dKn⟩
 rotate_left
 have hR : DSR w0 w g gl cl x2.heap.size l x7 := ⟨gr, cr, gw, cw, gg, cg, xs, ms, bs, n, ib, b, t, p, s, (by show dhp _ _ = _; go_simp), (by show dhp _ _ = _; go_simp), hst.out, dRG, dRG, dRG, dRG, ne, by omega, by omega, by omega, by omega, by omega, by omega, dCI, dKn⟩
 all_goals
  go_loopw [7] (fun v7 w' => ∃ i : Nat, v7 = .int .i64 i ∧ (i : Int) ≤ n7 ∧ DSR w0 w g gl cl x2.heap.size l w') (fun v7 _ => (10 - (intOf v7).toNat))
  · exact ⟨0, rfl, by omega, hR⟩
  · obtain ⟨i, rfl, hi7, gr, cr, gw, cw, gg, cg, xs, ms, bs, n, ib, b, t, p, s, c0, c1, hst, r1, r2, r3, rl, ne, g1, g2, g3, g4, g5, g6, hI, hK⟩ := hrel
    have q0 := bxf c0; have q1 := bxf c1; have c0d : dhp _ x2.heap.size = _ := c0; have c1d : dhp _ w.heap.size = _ := c1
    have zg1 := dz1 (n := g) hI.lt; have z1 := dz1 (n := w.heap.size) q1.2.2; have y1 := dz1 (n := x2.heap.size) q0.2.2; have vl1 := dz1 (n := gl) rl.lt; have v1 := dz1 (n := gr) r1.lt; have v2 := dz1 (n := gw) r2.lt; have v3 := dz1 (n := gg) r3.lt
    have u1 := dz1 (n := w.heap.size) g1; have u2 := dz1 (n := w.heap.size) g2; have u3 := dz1 (n := w.heap.size) g3; have k1 := dz1 (n := g) (Nat.le_of_lt g1); have k2 := dz1 (n := g) (Nat.le_of_lt g2); have k3 := dz1 (n := g) (Nat.le_of_lt g3)
    have g4' := g4.symm; have g5' := g5.symm; have g6' := g6.symm
    replace hst := Aside0.mk hst; replace hI := Aside0.mk hI; replace hK := Aside0.mk hK
    by_cases hlt : (i : Int) < n7
    · have hb1 : decide ((i : Int) < n7) = true := decide_eq_true hlt
      go_wp2_with (first
       | (go_at_call 80; (with_reducible refine dmv (spec_Step.safe (RG.C (cap := cl) dRG).1 (RG.C dRG).2 (by omega) dRG dRG dRG hst.out) ?_); rintro _ x8 ⟨A0, n0, c0', n', ib', b', t', p', s', A7, n7', c7, A8, n8, c8, tr, hv, hsok⟩ hb hd; have zg1 := dz1 (n := g) hb.size; have z1 := dz1 (n := w.heap.size) hb.size; have y1 := dz1 (n := x2.heap.size) hb.size; have vl1 := dz1 (n := gl) hb.size; have v1 := dz1 (n := gr) hb.size; have v2 := dz1 (n := gw) hb.size; have v3 := dz1 (n := gg) hb.size; rcases Decidable.em (tr = 0) with h0 | h0; obtain ⟨gr', cr', gw', cw', gg', cg', xs', ms', bs', n9, ib9, b9, t9, p9, s9, rfl, hst', r1', r2', r3', ne', g1', g2', g3'⟩ := hsok h0; clear hv h0 hsok; replace hst' := Aside0.mk hst'; have w1 := dz1 (n := gr') r1'.lt; have w2 := dz1 (n := gw') r2'.lt; have w3 := dz1 (n := gg') r3'.lt; have w4 := dz1 (n := x2.heap.size) g1'; have w5 := dz1 (n := x2.heap.size) g2'; have w6 := dz1 (n := x2.heap.size) g3'; rotate_left; subst hv; have t0 : (tr == 0) = false := beq_eq_false_iff_ne.mpr h0; clear hsok h0))
      all_goals go_roundw
      all_goals (first
       | exact ⟨i + 1, by go_num, by omega, gr', cr', gw', cw', gg', cg', xs', ms', bs', n9, ib9, b9, t9, p9, s9, (by show dhp _ _ = _; go_simp), (by show dhp _ _ = _; go_simp), hst'.out, dRG, dRG, dRG, dRG, ne', by omega, by omega, by omega, by omega, by omega, by omega, dCI, dKn⟩
       | exact ⟨i + 1, by go_num, by omega, gr, cr, gw, cw, gg, cg, xs, ms, bs, n, ib, b, t, p, s, (by show dhp _ _ = _; go_simp), (by show dhp _ _ = _; go_simp), hst.out, dRG, dRG, dRG, dRG, ne, by omega, by omega, by omega, by omega, by omega, by omega, dCI, dKn⟩
       | (simp [intOf]; omega))
    · have hb0 : decide ((i : Int) < n7) = false := decide_eq_false hlt
      go_wp2
      refine dst 0 none [3] (ml [0, 4]) spec_l9DrawState.tab13 spec_l9DrawState.bits13 (fun HT_ HW_ hH => ?_)
      refine rP HT_.out 0 39 (ml [1, 3]) ?_
      refine rP HT_.out 2 2 (ml [1, 1, 1, 1]) ?_
      refine dT HT_.out HW_.out hH 1 40 (ml [3, 1]) ?_
      refine dL HT_.out 3 (ml [4]) ?_
      refine done_ (done_of HT_.out (by kernel_rfl)) ?_
      go_wp2
      refine bodyPost_ret (results_list (rs := [.tmp 2, .cell 3 60]) rfl (by simp) (.tmp (dVc Try.underlying60 .nil))) rfl ?_
      exact ⟨_, rfl, ⟨gl, cl, l, _, rfl, l1, l2, dRG, by omega, ⟨gr, cr, gw, cw, gg, cg, xs, ms, bs, n, ib, b, t, p, s, rfl, hst.out, dRG, dRG, dRG, ne, by omega, by omega, by omega⟩⟩, dCI, dKn⟩
end Go.Proofs.Ytpcladboobfkhaa.PFnWork
