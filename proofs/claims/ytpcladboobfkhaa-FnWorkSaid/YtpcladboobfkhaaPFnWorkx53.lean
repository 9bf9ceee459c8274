/- A drawn fetch, safely. -/
import Derived.Test.YtpcladboobfkhaaPFnWorkx52
namespace Go.Proofs.Ytpcladboobfkhaa.PFnWork
open Go.Proofs.Ytpcladboobfkhaa.Pure hiding stM
open Go.RowKit Go.Proofs.YtpcladboobfkhaaW.PrintWords Go.Proofs.YtpcladboobfkhaaW.PrintLast Go.Proofs.YtpcladboobfkhaaW.PrintMore Go.Proofs.YtpcladboobfkhaaW.Mine
attribute [local go_sem] dsc dhs dha ddr ddrN ddz ddc nn2 nn3 nn4 nn5 nn6 nn7 nn8 nn9
attribute [local go_sem] max2_int min2_int max_two min_two max_three min_three max_four min_four
set_option linter.unusedVariables false
set_option linter.unusedSimpArgs false
def spec_DrawFetch.T5 : Bool × List (List Nat × List Nat) := (true, [([], []), ([], []), ([1], [1]), ([0, 0], [0]), ([2, 3, 0, 1, 2, 3], [2])])
def spec_DrawFetch.B5 : List Nat := [0, 0, 2, 1, 15]
theorem spec_DrawFetch.tab5 : rtab .any (opsOf Try.f8 5) = spec_DrawFetch.T5 := by kernel_rfl
theorem spec_DrawFetch.bits5 : waitsOk spec_DrawFetch.T5.2 spec_DrawFetch.B5 = true := by kernel_rfl
set_option maxHeartbeats 8000000 in
set_option maxRecDepth 100000 in
theorem spec_DrawFetch.safe {A : Option Addr} {c : Nat} {l : List Int} {w : World} (hr : Kd.C (Kd.int .u8) w A l.length l) (hc : l.length ≤ c) (hl : l.length ≤ maxLen) :
    Calls Try.prog 8 #[.slice A l.length c] w fun e w' => ∃ v, e = .returned v ∧ (∃ gl cl, ∃ L : List S25, ∃ n b x y z s, v = .tuple #[.slice (some ⟨gl, 0, none⟩) L.length cl, .agg #[.int .i64 n, .bool b, .int .i64 x, .int .i64 y, .int .i64 z, .int .i64 s]] ∧ L.length ≤ 101 ∧ RG k25 25 w' gl cl L ∧ w.heap.size ≤ gl) ∧ Below w.heap.size w w' := by
 have hu60 := Try.underlying60; have hu29 := Try.underlying29; have hu27 := Try.underlying27; have hu58 := Try.underlying58
 go_enter Try.func8, Try.ntmps8
 go_wp2_with (first
  | (go_at_call 13; (with_reducible refine dnew hr hc hl ?_); intro g x1 hi hb hd hg; have z := dz1 (n := w.heap.size) hb.size; have zg := dz1 (n := g) hi.out.lt; have zw := dz1 (n := w.heap.size) hg)
  | (go_at_call 29; (with_reducible refine SC.go (w0 := w) spec_l9Draw.safe ?_); rintro _ x2 ⟨gl, cl, L, A0, n0, c0, n, ib, b, t, p, s, A7, n7, c7, A8, n8, c8, tr, rfl, lL, rl, gl0⟩ hi hk hs hd; have z := dz1 (n := w.heap.size) hs; have zg := dz1 (n := g) hs; have vl := dz1 (n := gl) rl.lt; have ul := dz1 (n := w.heap.size) gl0; have kl := dz1 (n := g) gl0)
  | (go_at_call 17; (with_reducible refine SC.go (w0 := w) (sc17 3 (by decide)) ?_); rintro _ x3 ⟨b3, rfl⟩ hi hk hs hd; have z := dz1 (n := w.heap.size) hs; have zg := dz1 (n := g) hs; have vl := dz1 (n := gl) hs; have y2 := dz1 (n := x2.heap.size) hs; cases b3)
  | (go_at_call 16; (with_reducible refine SC.go (w0 := w) (sc16 50 (by decide)) ?_); rintro _ x4 ⟨n4, rfl, hn4⟩ hi hk hs hd; have z := dz1 (n := w.heap.size) hs; have zg := dz1 (n := g) hs; have vl := dz1 (n := gl) hs; have y2 := dz1 (n := x2.heap.size) hs)
  | (go_at_call 15; (with_reducible refine dmv (sc15 _ _ _ _ _ _) ?_); rintro _ x5 ⟨j1, j2, j3, j4, j5, j6, rfl⟩ hb hd; have z := dz1 (n := w.heap.size) hb.size; have zg := dz1 (n := g) hb.size; have vl := dz1 (n := gl) hb.size; have y2 := dz1 (n := x2.heap.size) hb.size))
 all_goals
  refine dst 0 none [4] (ml [0, 5]) spec_DrawFetch.tab5 spec_DrawFetch.bits5 (fun HT_ HW_ hH => ?_)
  refine rP HT_.out 0 21 (ml [1, 4]) ?_
  refine rP HT_.out 1 22 (ml [2, 3]) ?_
  refine rP HT_.out 3 2 (ml [2, 1, 1, 1]) ?_
  refine dT HT_.out HW_.out hH 2 23 (ml [4, 1]) ?_
  refine dL HT_.out 4 (ml [5]) ?_
  refine done_ (done_of HT_.out (by kernel_rfl)) ?_
  go_wp2
  refine bodyPost_ret (results_list (rs := [.tmp 2, .cell 3 29]) rfl (by simp) (.tmp (dVc Try.underlying29 .nil))) rfl ?_
  exact ⟨_, rfl, ⟨gl, cl, L, _, _, _, _, _, _, rfl, lL, dRG, by omega⟩, dBe⟩
end Go.Proofs.Ytpcladboobfkhaa.PFnWork
