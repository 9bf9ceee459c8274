/- A list drawn, safely. -/
import Derived.Test.YtpcladboobfkhaaPFnWorkx42
import Derived.Test.YtpcladboobfkhaaPFnWorkx46
namespace Go.Proofs.Ytpcladboobfkhaa.PFnWork
open Go.Proofs.Ytpcladboobfkhaa.Pure hiding stM
open Go.RowKit Go.Proofs.YtpcladboobfkhaaW.PrintWords Go.Proofs.YtpcladboobfkhaaW.PrintLast Go.Proofs.YtpcladboobfkhaaW.PrintMore Go.Proofs.YtpcladboobfkhaaW.Mine
attribute [local go_sem] dsc dhs dha ddr ddrN ddz ddc nn2 nn3 nn4 nn5 nn6 nn7 nn8 nn9
attribute [local go_sem] max2_int min2_int max_two min_two max_three min_three max_four min_four
set_option linter.unusedVariables false
set_option linter.unusedSimpArgs false
theorem sc42 : SC 42 [] (fun _ _ v => ∃ n b x y z s, v = .agg #[.int .i64 n, .bool b, .int .i64 x, .int .i64 y, .int .i64 z, .int .i64 s] ∧ wOk n b x y z s = true) := by
  intro w0 w g ⟨l, i, h, hl, hi, hI, hB⟩
  obtain ⟨⟨r1, r2, r3, r4, r5, r6, i', h'⟩, e, p⟩ := wright_ok 0 l i h hl hi
  refine (spec_l3DrawRight.calls (h := e) (hI := hI) (hB := hB)).mono ?_
  rintro e w' ⟨rfl, a, b, c⟩
  exact ⟨_, rfl, ⟨_, _, _, _, _, _, rfl, p.2⟩, ⟨_, _, _, hl, p.1, a, b⟩, c⟩
theorem sc39 (x0 x1 x2 x3 x4 : Int) : SC 39 [.agg #[.int .i64 x0, .int .i64 x1, .int .i64 x2, .int .i64 x3, .int .i64 x4]] (fun _ _ v => IV v) := by
  intro w0 w g ⟨l, i, h, hl, hi, hI, hB⟩
  obtain ⟨⟨r1, r2, r3, r4, r5, i', h'⟩, e, p⟩ := spoil_c l i h x0 x1 x2 x3 x4 hl hi
  refine (spec_l6Spoil.calls (h := e) (hI := hI) (hB := hB)).mono ?_
  rintro e w' ⟨rfl, a, b, c⟩
  exact ⟨_, rfl, ⟨_, _, _, _, _, rfl⟩, ⟨_, _, _, hl, p, a, b⟩, c⟩
theorem sc77 : SC 77 [] (fun w w' v => ∃ g cap l, v = .slice (some ⟨g, 0, none⟩) l.length cap ∧ 1 ≤ l.length ∧ l.length ≤ 101 ∧ RG k25 25 w' g cap l ∧ w.heap.size ≤ g) := by
  intro w0 w g ⟨l, i, h, hl, hi, hI, hB⟩
  obtain ⟨⟨r1, i', h'⟩, e, p⟩ := code_T 0 l i h hl hi; dsimp only at p
  refine (spec_l6DrawCode.calls (h := e) (hI := hI) (hB := hB)).mono ?_
  rintro e w' ⟨v, rfl, hr, a, b, c⟩
  obtain ⟨g', cap, rfl, a0, a1, a2, a3⟩ := RG.of rfl hr (by omega)
  exact ⟨_, rfl, ⟨_, _, _, rfl, p.1, p.2.1, a3, a0⟩, ⟨_, _, _, hl, p.2.2, a, b⟩, c⟩
theorem sc79 : SC 79 [] (fun w w' v => ∃ gw cw gg cg ms bs, v = .agg #[.slice (some ⟨gw, 0, none⟩) ms.length cw, .slice (some ⟨gg, 0, none⟩) bs.length cg] ∧ ms.length = 24 ∧ ms.all wOkT = true ∧ bs.length = 24 ∧ RG k29 29 w' gw cw ms ∧ RG Kd.bool 4 w' gg cg bs ∧ w.heap.size ≤ gw ∧ w.heap.size ≤ gg) := by
  intro w0 w g ⟨l, i, h, hl, hi, hI, hB⟩
  obtain ⟨⟨r1, r2, i', h'⟩, e, p⟩ := mright_ok 100 l i h (by omega) hl hi; dsimp only at p
  refine (spec_l8DrawRight.calls (h := e) (hI := hI) (hB := hB)).mono ?_
  rintro e w' ⟨v0, v1, rfl, h0, h1, a, b, c⟩
  obtain ⟨g0, c0, rfl, a0, a1, a2, a3⟩ := RG.of rfl h0 (by omega)
  obtain ⟨g1, c1, rfl, b0, b1, b2, b3⟩ := RG.of rfl h1 (by omega)
  exact ⟨_, rfl, ⟨_, _, _, _, _, _, rfl, p.1, p.2.1, p.2.2.1, a3, b3, a0, b0⟩, ⟨_, _, _, hl, p.2.2.2, a, b⟩, c⟩
def spec_l8Draw.T6 : Bool × List (List Nat × List Nat) := (true, [([], []), ([0], [0]), ([], []), ([2], [2]), ([], []), ([4, 3], [4]), ([1, 3, 0, 1, 2, 3, 4, 5], [1, 3]), ([6, 5, 5, 0, 1, 2, 3, 4, 5], [5, 6])])
def spec_l8Draw.B6 : List Nat := [0, 1, 0, 4, 0, 28, 63, 127]
theorem spec_l8Draw.tab6 : rtab .any (opsOf Try.f61 6) = spec_l8Draw.T6 := by kernel_rfl
theorem spec_l8Draw.bits6 : waitsOk spec_l8Draw.T6.2 spec_l8Draw.B6 = true := by kernel_rfl
set_option maxHeartbeats 8000000 in
set_option maxRecDepth 100000 in
theorem spec_l8Draw.safe : SC 61 [] (fun _ _ v => ∃ A n c A' n' c', v = .agg #[.slice A n c, .slice A' n' c']) := by
 intro w0 w g hI
 have hu58 := Try.underlying58; have hu29 := Try.underlying29
 have zg := dz1 (n := g) hI.lt; have hw0 := hI.bel.size; have hI := Aside0.mk hI
 show Calls Try.prog 61 #[.pointer (some ⟨g, 0, none⟩)] w _
 go_enter Try.func61, Try.ntmps61
 go_wp2_with (first
  | (go_at_call 79; (with_reducible refine SC.go (w0 := w0) sc79 ?_); rintro _ x1 ⟨gw, cw, gg, cg, ms, bs, rfl, m1, m2, m3, r1, r2, g1, g2⟩ hi hk hs hd; have z := dz1 (n := w.heap.size) hs; have zg := dz1 (n := g) hs; have v1 := dz1 (n := gw) r1.lt; have v2 := dz1 (n := gg) r2.lt; have u1 := dz1 (n := w.heap.size) g1; have u2 := dz1 (n := w.heap.size) g2; have k1 := dz1 (n := g) g1; have k2 := dz1 (n := g) g2; have lm : 24 ≤ ms.length ∧ ms.length ≤ 24 := (by omega); clear m1 m3; have m2 := Aside0.mk m2)
  | (go_at_call 16; (with_reducible refine SC.go (w0 := w0) (sc16 15 (by decide)) ?_); rintro _ x2 ⟨n2, rfl, hn⟩ hi hk hs hd; have z := dz1 (n := w.heap.size) hs; have zg := dz1 (n := g) hs; have v1 := dz1 (n := gw) hs; have v2 := dz1 (n := gg) hs; have u3 := dz1 (n := x1.heap.size) hs; rcases (show n2 = 0 ∨ n2 = 1 ∨ n2 = 2 ∨ 3 ≤ n2 by omega) with h | h | h | h; all_goals (first | subst h | (have e0 : (n2 == 0) = false := beq_eq_false_iff_ne.mpr (by omega); have e1 : (n2 == 1) = false := beq_eq_false_iff_ne.mpr (by omega); have e2 : (n2 == 2) = false := beq_eq_false_iff_ne.mpr (by omega)))))
 rotate_left 2
 ·refine dst 0 (some g) [7] (ml [0, 8]) spec_l8Draw.tab6 spec_l8Draw.bits6 (fun HT_ HW_ hH => ?_)
  refine rP HT_.out 0 16 (ml [1, 7]) ?_
  refine rP HT_.out 2 18 (ml [1, 1, 1, 5]) ?_
  refine rP HT_.out 4 20 (ml [1, 1, 1, 1, 1, 3]) ?_
  refine dT HT_.out HW_.out hH 1 17 (ml [3, 1, 1, 3]) ?_
  refine dC HT_.out 3 (some 19) (ml [5, 3]) Try.func16 #[.pointer (some ⟨g, 0, none⟩), .int .i64 24] ?_
  (with_reducible refine SC.go (w0 := w0) (sc16 24 (by decide)) ?_); rintro _ x4 ⟨n4, rfl, hn4⟩ hi hk hs hd; have z := dz1 (n := w.heap.size) hs; have zg := dz1 (n := g) hs; have v1 := dz1 (n := gw) hs; have v2 := dz1 (n := gg) hs; have u3 := dz1 (n := x1.heap.size) hs
  refine ⟨_, rfl, dSB hH, fun hH => dN ?_⟩
  refine dC HT_.out 5 (some 21) (ml [6, 2]) Try.func18 #[.pointer (some ⟨g, 0, none⟩)] ?_
  (with_reducible refine SC.go (w0 := w0) sc18 ?_); rintro _ x5 ⟨d1, d2, d3, d4, d5, d6, rfl⟩ hi hk hs hd; have z := dz1 (n := w.heap.size) hs; have zg := dz1 (n := g) hs; have v1 := dz1 (n := gw) hs; have v2 := dz1 (n := gg) hs; have u3 := dz1 (n := x1.heap.size) hs
  refine ⟨_, rfl, dSB hH, fun hH => dN ?_⟩
  have ix := dix (i := n4) (n := ms.length) (by omega) (by omega)
  have e1 := r1.w6 n4 (by omega) (by omega)
  refine rP HT_.out 6 22 (ml [7, 1]) ?_
  refine dL HT_.out 7 (ml [8]) ?_
  refine done_ (done_of HT_.out (by kernel_rfl)) ?_
  go_wp2
  refine bodyPost_ret (drc rfl _ _ rfl (by go_simp; rfl)) rfl ?_
  exact ⟨_, rfl, ⟨_, _, _, _, _, _, rfl⟩, dCI, dKn⟩
 all_goals
  refine bodyPost_ret (drc rfl _ _ rfl (by go_simp; rfl)) rfl ?_
  exact ⟨_, rfl, ⟨_, _, _, _, _, _, rfl⟩, dCI, dKn⟩
end Go.Proofs.Ytpcladboobfkhaa.PFnWork
