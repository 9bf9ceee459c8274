/- A drawn run, safely. -/
import Derived.Test.YtpcladboobfkhaaPFnWorkx51
namespace Go.Proofs.Ytpcladboobfkhaa.PFnWork
open Go.Proofs.Ytpcladboobfkhaa.Pure hiding stM
open Go.RowKit Go.Proofs.YtpcladboobfkhaaW.PrintWords Go.Proofs.YtpcladboobfkhaaW.PrintLast Go.Proofs.YtpcladboobfkhaaW.PrintMore Go.Proofs.YtpcladboobfkhaaW.Mine
attribute [local go_sem] dsc dhs dha ddr ddrN ddz ddc nn2 nn3 nn4 nn5 nn6 nn7 nn8 nn9
attribute [local go_sem] max2_int min2_int max_two min_two max_three min_three max_four min_four
set_option linter.unusedVariables false
set_option linter.unusedSimpArgs false
def spec_l9Draw.T4 : Bool × List (List Nat × List Nat) := (true, [([], []), ([0], [0]), ([], []), ([2], [2]), ([], []), ([4, 3], [4]), ([1, 3, 0, 1, 2, 3, 4, 5], [1, 3]), ([6, 5, 5, 0, 1, 2, 3, 4, 5], [5, 6])])
def spec_l9Draw.B4 : List Nat := [0, 1, 0, 4, 0, 28, 63, 127]
theorem spec_l9Draw.tab4 : rtab .any (opsOf Try.f29 4) = spec_l9Draw.T4 := by kernel_rfl
theorem spec_l9Draw.bits4 : waitsOk spec_l9Draw.T4.2 spec_l9Draw.B4 = true := by kernel_rfl
def spec_l9Draw.T14 : Bool × List (List Nat × List Nat) := (true, [([], []), ([], []), ([], []), ([2], [2]), ([1, 3], [1, 3]), ([], []), ([], []), ([6], [6]), ([7], [7]), ([5, 8, 4], [5, 8]), ([0, 4, 0, 1, 2, 3, 4, 5, 6, 7, 8, 9], [0, 4]), ([10, 9, 9, 0, 1, 2, 3, 4, 5, 6, 7, 8, 9], [9, 10])])
def spec_l9Draw.B14 : List Nat := [0, 0, 0, 4, 14, 0, 0, 64, 192, 510, 1023, 2047]
theorem spec_l9Draw.tab14 : rtab .any (opsOf Try.f29 14) = spec_l9Draw.T14 := by kernel_rfl
theorem spec_l9Draw.bits14 : waitsOk spec_l9Draw.T14.2 spec_l9Draw.B14 = true := by kernel_rfl
def spec_l9Draw.T15 : Bool × List (List Nat × List Nat) := (true, [([], []), ([], []), ([0, 0], [0]), ([1, 2, 0, 1, 2], [1])])
def spec_l9Draw.B15 : List Nat := [0, 0, 1, 7]
theorem spec_l9Draw.tab15 : rtab .any (opsOf Try.f29 15) = spec_l9Draw.T15 := by kernel_rfl
theorem spec_l9Draw.bits15 : waitsOk spec_l9Draw.T15.2 spec_l9Draw.B15 = true := by kernel_rfl
def LSV (w w' : World) (v : Value) : Prop := ∃ gl cl, ∃ l : List S25, ∃ A0 n0 c0 n ib b t p s A7 n7 c7 A8 n8 c8 tr, v = .tuple #[.slice (some ⟨gl, 0, none⟩) l.length cl, .agg #[.slice A0 n0 c0, .int .i64 n, .bool ib, .int .i64 b, .int .i64 t, .int .i64 p, .int .i64 s, .slice A7 n7 c7, .slice A8 n8 c8, .int .i64 tr]] ∧ l.length ≤ 101 ∧ RG k25 25 w' gl cl l ∧ w.heap.size ≤ gl
set_option maxHeartbeats 8000000 in
set_option maxRecDepth 100000 in
theorem spec_l9Draw.safe : SC 29 [] LSV := by
 intro w0 w g hI
 have hu60 := Try.underlying60; have hu29 := Try.underlying29; have hu58 := Try.underlying58; have hu25 := Try.underlying25
 have zg := dz1 (n := g) hI.lt; have hw0 := hI.bel.size; have hI := Aside0.mk hI
 show Calls Try.prog 29 #[.pointer (some ⟨g, 0, none⟩)] w _
 go_enter Try.func29, Try.ntmps29
 go_wp2_with (first
  | (go_at_call 60; (with_reducible refine SC.go (w0 := w0) spec_l9DrawState.safe ?_); rintro _ x1 ⟨gl, cl, l, _, rfl, l1, l2, rl, gl0, gr, cr, gw, cw, gg, cg, xs, ms, bs, n, ib, b, t, p, s, rfl, hst, r1, r2, r3, ne, g1, g2, g3⟩ hi hk hs hd; have lx : 8 ≤ xs.length ∧ xs.length ≤ 8 := (by have := (stM_parts hst).1; omega); have nlr := RG.ne rl r1 (by decide); have nlr' := nlr.symm; replace hst := Aside0.mk hst; have z := dz1 (n := w.heap.size) hs; have zg := dz1 (n := g) hs; have vl := dz1 (n := gl) rl.lt; have v1 := dz1 (n := gr) r1.lt; have ul := dz1 (n := w.heap.size) gl0; have u1 := dz1 (n := w.heap.size) g1; have kl := dz1 (n := g) gl0; have k1 := dz1 (n := g) g1)
  | (go_at_call 16; (with_reducible refine SC.go (w0 := w0) (sc16 15 (by decide)) ?_); rintro _ x2 ⟨n2, rfl, hn⟩ hi hk hs hd; have z := dz1 (n := w.heap.size) hs; have zg := dz1 (n := g) hs; have vl := dz1 (n := gl) hs; have v1 := dz1 (n := gr) hs; have y1 := dz1 (n := x1.heap.size) hs; rcases (show n2 = 0 ∨ n2 = 1 ∨ n2 = 2 ∨ n2 = 3 ∨ n2 = 4 ∨ n2 = 5 ∨ 6 ≤ n2 by omega) with h | h | h | h | h | h | h; all_goals (first | subst h | (have e0 : (n2 == 0) = false := beq_eq_false_iff_ne.mpr (by omega); have e1 : (n2 == 1) = false := beq_eq_false_iff_ne.mpr (by omega); have e2 : (n2 == 2) = false := beq_eq_false_iff_ne.mpr (by omega); have e3 : (n2 == 3) = false := beq_eq_false_iff_ne.mpr (by omega); have e4 : (n2 == 4) = false := beq_eq_false_iff_ne.mpr (by omega); have e5 : (n2 == 5) = false := beq_eq_false_iff_ne.mpr (by omega))))
  | (go_at_call 16; (with_reducible refine SC.go (w0 := w0) (sc16 8 (by decide)) ?_); rintro _ x3 ⟨n3, rfl, hn3⟩ hi hk hs hd; have z := dz1 (n := w.heap.size) hs; have zg := dz1 (n := g) hs; have vl := dz1 (n := gl) hs; have v1 := dz1 (n := gr) hs; have y1 := dz1 (n := x1.heap.size) hs)
  | (go_at_call 18; (with_reducible refine SC.go (w0 := w0) sc18 ?_); rintro _ x3 ⟨d1, d2, d3, d4, d5, d6, rfl⟩ hi hk hs hd; have z := dz1 (n := w.heap.size) hs; have zg := dz1 (n := g) hs; have vl := dz1 (n := gl) hs; have v1 := dz1 (n := gr) hs; have y1 := dz1 (n := x1.heap.size) hs)
  | (go_at_call 61; (with_reducible refine SC.go (w0 := w0) spec_l8Draw.safe ?_); rintro _ x3 ⟨A, m, c, A', m', c', rfl⟩ hi hk hs hd; have z := dz1 (n := w.heap.size) hs; have zg := dz1 (n := g) hs; have vl := dz1 (n := gl) hs; have v1 := dz1 (n := gr) hs; have y1 := dz1 (n := x1.heap.size) hs))
 refine dst 0 (some g) [7] (ml [0, 8]) spec_l9Draw.tab4 spec_l9Draw.bits4 (fun HT_ HW_ hH => ?_)
 refine rP HT_.out 0 15 (ml [1, 7]) ?_
 refine rP HT_.out 2 17 (ml [1, 1, 1, 5]) ?_
 refine rP HT_.out 4 19 (ml [1, 1, 1, 1, 1, 3]) ?_
 refine dT HT_.out HW_.out hH 1 16 (ml [3, 1, 1, 3]) ?_
 refine dC HT_.out 3 (some 18) (ml [5, 3]) Try.func16 #[.pointer (some ⟨g, 0, none⟩), .int .i64 8] ?_
 (with_reducible refine SC.go (w0 := w0) (sc16 8 (by decide)) ?_); rintro _ x4 ⟨n4, rfl, hn4⟩ hi hk hs hd; have z := dz1 (n := w.heap.size) hs; have zg := dz1 (n := g) hs; have vl := dz1 (n := gl) hs; have v1 := dz1 (n := gr) hs; have y1 := dz1 (n := x1.heap.size) hs
 refine ⟨_, rfl, dSB hH, fun hH => dN ?_⟩
 refine dC HT_.out 5 (some 20) (ml [6, 2]) Try.func18 #[.pointer (some ⟨g, 0, none⟩)] ?_
 (with_reducible refine SC.go (w0 := w0) sc18 ?_); rintro _ x5 ⟨d1, d2, d3, d4, d5, d6, rfl⟩ hi hk hs hd; have z := dz1 (n := w.heap.size) hs; have zg := dz1 (n := g) hs; have vl := dz1 (n := gl) hs; have v1 := dz1 (n := gr) hs; have y1 := dz1 (n := x1.heap.size) hs
 refine ⟨_, rfl, dSB hH, fun hH => dN ?_⟩
 have ix := dix (i := n4) (n := xs.length) (by omega) (by omega)
 have e1 := r1.w6 n4 (by omega) (by omega)
 refine rP HT_.out 6 21 (ml [7, 1]) ?_
 refine dL HT_.out 7 (ml [8]) ?_
 refine done_ (done_of HT_.out (by kernel_rfl)) ?_
 go_wp2
 rotate_left 6
 refine dst 0 (some g) [11] (ml [0, 12]) spec_l9Draw.tab14 spec_l9Draw.bits14 (fun HT_ HW_ hH => ?_)
 have e0 := rl.w5 0 (by omega) (by omega); simp only [Int.toNat_zero, Nat.zero_mul, Nat.zero_add] at e0
 have j1 : decide (0 < (l.length : Int)) = true := decide_eq_true (by omega)
 have j2 : decide (0 < l.length) = true := decide_eq_true (by omega)
 have j3 : 0 < l.length := by omega
 refine rP HT_.out 0 46 (ml [1, 11]) ?_
 refine rP HT_.out 1 47 (ml [2, 10]) ?_
 refine rP HT_.out 2 48 (ml [3, 9]) ?_
 refine rP HT_.out 3 49 (ml [4, 8]) ?_
 refine rP HT_.out 5 51 (ml [4, 1, 1, 6]) ?_
 refine rP HT_.out 6 52 (ml [4, 1, 2, 5]) ?_
 refine rP HT_.out 7 53 (ml [4, 1, 3, 4]) ?_
 refine dT HT_.out HW_.out hH 8 54 (ml [4, 1, 4, 3]) ?_
 refine dC HT_.out 4 (some 50) (ml [9, 3]) Try.func16 #[.pointer (some ⟨g, 0, none⟩), .int .i64 (l.length : Int)] ?_
 (with_reducible refine SC.go (w0 := w0) (sc16 (l.length : Int) (by omega)) ?_); rintro _ x4 ⟨n4, rfl, hn4⟩ hi hk hs hd; have z := dz1 (n := w.heap.size) hs; have zg := dz1 (n := g) hs; have vl := dz1 (n := gl) hs; have v1 := dz1 (n := gr) hs; have y1 := dz1 (n := x1.heap.size) hs
 refine ⟨_, rfl, dSB hH, fun hH => dN ?_⟩
 refine dC HT_.out 9 (some 55) (ml [10, 2]) Try.func39 #[.pointer (some ⟨g, 0, none⟩), .agg #[.int .i64 (rd_T25 l 0).f0, .int .i64 (rd_T25 l 0).f1, .int .i64 (rd_T25 l 0).f2, .int .i64 (rd_T25 l 0).f3, .int .i64 (rd_T25 l 0).f4]] ?_
 (with_reducible refine SC.go (w0 := w0) (sc39 _ _ _ _ _) ?_); rintro _ x5 ⟨d1, d2, d3, d4, d5, rfl⟩ hi hk hs hd; have z := dz1 (n := w.heap.size) hs; have zg := dz1 (n := g) hs; have vl := dz1 (n := gl) hs; have v1 := dz1 (n := gr) hs; have y1 := dz1 (n := x1.heap.size) hs
 refine ⟨_, rfl, dSB hH, fun hH => dN ?_⟩
 have ix := dix (i := n4) (n := l.length) (by omega) (by omega)
 have e1 := rl.w5 n4 (by omega) (by omega)
 refine rP HT_.out 10 56 (ml [11, 1]) ?_
 refine dL HT_.out 11 (ml [12]) ?_
 refine done_ (done_of HT_.out (by kernel_rfl)) ?_
 go_wp2
 all_goals
  refine dst 0 none [3] (ml [0, 4]) spec_l9Draw.tab15 spec_l9Draw.bits15 (fun HT_ HW_ hH => ?_)
  refine rP HT_.out 0 57 (ml [1, 3]) ?_
  refine rP HT_.out 2 2 (ml [1, 1, 1, 1]) ?_
  refine dT HT_.out HW_.out hH 1 58 (ml [3, 1]) ?_
  refine dL HT_.out 3 (ml [4]) ?_
  refine done_ (done_of HT_.out (by kernel_rfl)) ?_
  go_wp2
  refine bodyPost_ret (results_list (rs := [.tmp 2, .cell 3 60]) rfl (by simp) (.tmp (dVc Try.underlying60 .nil))) rfl ?_
  first
   | exact ⟨_, rfl, ⟨gl, cl, l, _, _, _, _, _, _, _, _, _, _, _, _, _, _, _, _, rfl, l2, dRG, by omega⟩, dCI, dKn⟩
   | exact ⟨_, rfl, ⟨gl, cl, l.set n4.toNat ⟨d1, d2, d3, d4, d5⟩, _, _, _, _, _, _, _, _, _, _, _, _, _, _, _, _, (by simp only [List.length_set]; rfl), (by rw [List.length_set]; exact l2), dRG, by omega⟩, dCI, dKn⟩
end Go.Proofs.Ytpcladboobfkhaa.PFnWork
