/- A drawn work, safely. -/
import Derived.Test.YtpcladboobfkhaaPFnWorkx41
namespace Go.Proofs.Ytpcladboobfkhaa.PFnWork
open Go.RowKit Go.Proofs.YtpcladboobfkhaaW.PrintWords Go.Proofs.YtpcladboobfkhaaW.PrintLast Go.Proofs.YtpcladboobfkhaaW.PrintMore Go.Proofs.YtpcladboobfkhaaW.Mine
attribute [local go_sem] dsc dhs dha ddr ddrN ddz ddc nn2 nn3 nn4 nn5 nn6 nn7 nn8 nn9
attribute [local go_sem] max2_int min2_int max_two min_two max_three min_three max_four min_four
set_option linter.unusedVariables false
set_option linter.unusedSimpArgs false
def spec_DrawWork.T8 : Bool × List (List Nat × List Nat) := (true, [([], []), ([], []), ([], []), ([], []), ([], []), ([4], [4]), ([0, 5, 0], [0]), ([1, 6, 0, 1, 6], [1]), ([2, 7, 0, 1, 2, 6, 7], [2]), ([3, 8, 0, 1, 2, 3, 6, 7, 8], [3]), ([5, 9, 0, 1, 2, 3, 4, 5, 6, 7, 8, 9], [5])])
def spec_DrawWork.B8 : List Nat := [0, 0, 0, 0, 0, 16, 49, 115, 247, 511, 1023]
theorem spec_DrawWork.tab8 : rtab .any (opsOf Try.f5 8) = spec_DrawWork.T8 := by kernel_rfl
theorem spec_DrawWork.bits8 : waitsOk spec_DrawWork.T8.2 spec_DrawWork.B8 = true := by kernel_rfl
set_option maxHeartbeats 8000000 in
set_option maxRecDepth 100000 in
theorem spec_DrawWork.safe {A : Option Addr} {c : Nat} {l : List Int} {w : World} (hr : Kd.C (Kd.int .u8) w A l.length l) (hc : l.length ≤ c) (hl : l.length ≤ maxLen) :
    Calls Try.prog 5 #[.slice A l.length c] w fun e w' => ∃ v, e = .returned v ∧ (∃ x v1 v2 v3 v4, v = .tuple #[x, v1, v2, v3, v4] ∧ IV x ∧ WV v1 ∧ WV v2 ∧ WV v3 ∧ WV v4) ∧ Below w.heap.size w w' := by
 have hu25 := Try.underlying25; have hu29 := Try.underlying29; have hu27 := Try.underlying27
 go_enter Try.func5, Try.ntmps5
 go_wp2_with (first
  | (go_at_call 13; (with_reducible refine dnew hr hc hl ?_); intro g x1 hi hb hd hg; have z := dz5 (n := w.heap.size) hb.size; have zg := dz1 (n := g) hi.out.lt; have zw := dz5 (n := w.heap.size) hg)
  | (go_at_call 14; (with_reducible refine dmv (sc14 (Kd.C_below hr dBe) hc hl) ?_); rintro _ x2 ⟨i1, i2, i3, i4, i5, rfl⟩ hb hd; have z := dz5 (n := w.heap.size) hb.size; have zg := dz1 (n := g) hb.size)
  | (go_at_call 16; (with_reducible refine SC.go (w0 := w) (sc16 48 (by decide)) ?_); rintro _ x3 ⟨n3, rfl, _⟩ hi hk hs hd; have z := dz5 (n := w.heap.size) hs; have zg := dz1 (n := g) hs; have z2 := dz1 (n := x2.heap.size) hs)
  | (go_at_call 15; (with_reducible refine dmv (sc15 _ _ _ _ _ _) ?_); rintro _ x4 ⟨j1, j2, j3, j4, j5, j6, rfl⟩ hb hd; have z := dz5 (n := w.heap.size) hb.size; have zg := dz1 (n := g) hb.size; have z2 := dz1 (n := x2.heap.size) hb.size)
  | (go_at_call 17; (with_reducible refine SC.go (w0 := w) (sc17 5 (by decide)) ?_); rintro _ x5 ⟨b5, rfl⟩ hi hk hs hd; have z := dz5 (n := w.heap.size) hs; have zg := dz1 (n := g) hs; have z2 := dz1 (n := x2.heap.size) hs; have z4 := dz1 (n := x4.heap.size) hs; rcases b5 with _ | _; rotate_left; have tw := True.intro)
  | (go_at_call 18; have h7 := x7.heap; (with_reducible refine SC.go (w0 := w) sc18 ?_); rintro _ x8 ⟨c1, c2, c3, c4, c5, c6, rfl⟩ hi hk hs hd; have z := dz5 (n := w.heap.size) hs; have zg := dz1 (n := g) hs; have z2 := dz1 (n := x2.heap.size) hs; have z4 := dz1 (n := x4.heap.size) hs; have z7 := dz1 (n := x7.heap.size) hs)
  | (go_at_call 18; clear tw; (with_reducible refine SC.go (w0 := w) sc18 ?_); rintro _ x6 ⟨a1, a2, a3, a4, a5, a6, rfl⟩ hi hk hs hd; have z := dz5 (n := w.heap.size) hs; have zg := dz1 (n := g) hs; have z2 := dz1 (n := x2.heap.size) hs; have z4 := dz1 (n := x4.heap.size) hs)
  | (go_at_call 18; (with_reducible refine SC.go (w0 := w) sc18 ?_); rintro _ x7 ⟨b1, b2, b3, b4, b5, b6, rfl⟩ hi hk hs hd; have z := dz5 (n := w.heap.size) hs; have zg := dz1 (n := g) hs; have z2 := dz1 (n := x2.heap.size) hs; have z4 := dz1 (n := x4.heap.size) hs))
 all_goals
  refine dst (w.heap.size + 5) (some g) [] (ml [0, 11]) spec_DrawWork.tab8 spec_DrawWork.bits8 (fun HT_ HW_ hH => ?_); refine rP HT_.out 4 32 (ml [0, 4, 1, 6]) ?_
  refine dT HT_.out HW_.out hH 0 28 (ml [1, 3, 1, 6]) ?_
  refine dT HT_.out HW_.out hH 1 29 (ml [2, 2, 1, 6]) ?_
  refine dT HT_.out HW_.out hH 2 30 (ml [3, 1, 1, 6]) ?_
  refine dT HT_.out HW_.out hH 3 31 (ml [5, 6]) ?_
  refine dC HT_.out 5 (some 33) (ml [6, 5]) Try.func18 #[.pointer (some ⟨g, 0, none⟩)] ?_
  (with_reducible refine SC.go (w0 := w) sc18 ?_); rintro _ x9 ⟨d1, d2, d3, d4, d5, d6, rfl⟩ hi hk hs hd; have z := dz5 (n := w.heap.size) hs
  refine ⟨_, rfl, dSB hH, fun hH => dN ?_⟩
  refine dS HT_.out 6 (ml [7, 4]) (fun hH => ?_)
  refine dS HT_.out 7 (ml [8, 3]) (fun hH => ?_)
  refine dS HT_.out 8 (ml [9, 2]) (fun hH => ?_)
  refine dS HT_.out 9 (ml [10, 1]) (fun hH => ?_)
  refine dS HT_.out 10 (ml [11]) (fun hH => ?_)
  refine done_ (done_of HT_.out (by kernel_rfl)) ?_
  go_wp2
  refine bodyPost_ret (results_list (rs := [.cell 2 25, .cell 3 29, .cell 4 29, .cell 5 29, .cell 6 29]) rfl (by simp) (dVc Try.underlying25 (dVc Try.underlying29 (dVc Try.underlying29 (dVc Try.underlying29 (dVc Try.underlying29 .nil)))))) rfl ?_
  exact ⟨_, rfl, ⟨_, _, _, _, _, rfl, ⟨_, _, _, _, _, rfl⟩, ⟨_, _, _, _, _, _, rfl⟩, ⟨_, _, _, _, _, _, rfl⟩, ⟨_, _, _, _, _, _, rfl⟩, ⟨_, _, _, _, _, _, rfl⟩⟩, dBe⟩
end Go.Proofs.Ytpcladboobfkhaa.PFnWork
