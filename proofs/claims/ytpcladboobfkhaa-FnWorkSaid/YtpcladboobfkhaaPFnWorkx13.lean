-- Written by a program of this session (wip/patch.py turns a copy of the kit's print): the functions that the law reaches, and their walks.
import Derived.Test.YtpcladboobfkhaaPFnWorkx0
import Derived.Test.YtpcladboobfkhaaPFnWorkx10
import Derived.Test.YtpcladboobfkhaaPFnWorkx12
import Derived.Test.YtpcladboobfkhaaCFnWork
import Derived.Test.YtpcladboobfkhaaEFnWork
namespace Go.Proofs.Ytpcladboobfkhaa.PFnWork
open Go.RowKit Go.Proofs.YtpcladboobfkhaaW.PrintWords Go.Proofs.YtpcladboobfkhaaW.PrintLast Go.Proofs.YtpcladboobfkhaaW.PrintMore Go.Proofs.YtpcladboobfkhaaW.Mine
attribute [local go_sem] dsc dhs dha ddr ddrN
attribute [local go_sem] max2_int min2_int max_two min_two max_three min_three max_four min_four   -- for this text's walks alone
set_option linter.unusedVariables false
set_option linter.unusedSimpArgs false

/-! ### impl_OpenBy: function 53 -/
def impl_OpenBy.f (k : Nat) (a0_0 : Int) (a0_1 : Bool) (a0_2 : Int) (a0_3 : Int) (a0_4 : Int) (a0_5 : Int) (a1_0 : Int) (a1_1 : Bool) (a1_2 : Int) (a1_3 : Int) (a1_4 : Int) (a1_5 : Int) : Option (Int × Bool × Int × Int × Int × Int) := (impl_WordOk.f k a0_0 a0_1 a0_2 a0_3 a0_4 a0_5).bind fun bq => (if bq = true then (if a0_1 = true then ((impl_seals.f k a1_0 a1_1 a1_2 a1_3 a1_4 a1_5).bind fun bi => (if bi = true then (if a0_5 = a1_0 then (some (a0_0, a0_1, a0_2, a0_3, a0_4, 0)) else ((impl_Bare.f a0_0 a0_1 a0_2 a0_3 a0_4 a0_5).bind fun bc => (some (bc.1, bc.2.1, bc.2.2.1, bc.2.2.2.1, bc.2.2.2.2.1, bc.2.2.2.2.2)))) else ((impl_Bare.f a0_0 a0_1 a0_2 a0_3 a0_4 a0_5).bind fun bd => (some (bd.1, bd.2.1, bd.2.2.1, bd.2.2.2.1, bd.2.2.2.2.1, bd.2.2.2.2.2))))) else ((impl_Bare.f a0_0 a0_1 a0_2 a0_3 a0_4 a0_5).bind fun bg => (some (bg.1, bg.2.1, bg.2.2.1, bg.2.2.2.1, bg.2.2.2.2.1, bg.2.2.2.2.2)))) else ((impl_Bare.f a0_0 a0_1 a0_2 a0_3 a0_4 a0_5).bind fun bh => (some (bh.1, bh.2.1, bh.2.2.1, bh.2.2.2.1, bh.2.2.2.2.1, bh.2.2.2.2.2))))
theorem impl_OpenBy.mono : ∀ a0 a1 a2 a3 a4 a5 a6 a7 a8 a9 a10 a11 k, LeO (impl_OpenBy.f k a0 a1 a2 a3 a4 a5 a6 a7 a8 a9 a10 a11) (impl_OpenBy.f (k + 1) a0 a1 a2 a3 a4 a5 a6 a7 a8 a9 a10 a11) := by
 intro a0 a1 a2 a3 a4 a5 a6 a7 a8 a9 a10 a11 k
 unfold impl_OpenBy.f
 repeat' first
   | (with_reducible exact impl_WordOk.mono _ _ _ _ _ _ _)
   | (with_reducible exact impl_seals.mono _ _ _ _ _ _ _)
   | (with_reducible exact LeO.refl _)
   | (with_reducible exact LeO.none _)
   | (with_reducible refine LeO.ite ?_ ?_)
   | (with_reducible refine LeO.bind ?_ (fun _ => ?_))
   | exact impl_WordOk.mono _ _ _ _ _ _ _
   | exact impl_seals.mono _ _ _ _ _ _ _
   | exact LeO.none _
   | refine LeO.ite ?_ ?_
   | refine LeO.bind ?_ (fun _ => ?_)
set_option maxHeartbeats 8000000 in
set_option maxRecDepth 100000 in
theorem impl_OpenBy.calls (k : Nat) (a0_0 : Int) (a0_1 : Bool) (a0_2 : Int) (a0_3 : Int) (a0_4 : Int) (a0_5 : Int) (a1_0 : Int) (a1_1 : Bool) (a1_2 : Int) (a1_3 : Int) (a1_4 : Int) (a1_5 : Int) (r1 : Int) (r2 : Bool) (r3 : Int) (r4 : Int) (r5 : Int) (r6 : Int) (w : World) (h : impl_OpenBy.f k a0_0 a0_1 a0_2 a0_3 a0_4 a0_5 a1_0 a1_1 a1_2 a1_3 a1_4 a1_5 = some (r1, r2, r3, r4, r5, r6)) :
  Calls Try.prog 53 #[.agg #[.int .i64 a0_0, .bool a0_1, .int .i64 a0_2, .int .i64 a0_3, .int .i64 a0_4, .int .i64 a0_5], .agg #[.int .i64 a1_0, .bool a1_1, .int .i64 a1_2, .int .i64 a1_3, .int .i64 a1_4, .int .i64 a1_5]] w fun e w' => e = .returned (.agg #[.int .i64 r1, .bool r2, .int .i64 r3, .int .i64 r4, .int .i64 r5, .int .i64 r6]) ∧ Below w.heap.size w w' := by
 have hu29 := Try.underlying29; have H := h; clear h; unfold impl_OpenBy.f at H; (try dsimp only at H); replace H := Option.bind_eq_some_iff.mp H; obtain ⟨bq, A30, H⟩ := H; (try dsimp only at H); have A3 := Aside0.mk A30; clear A30
 by_cases c4 : bq = true
 ·subst c4
  rw [if_pos rfl] at H; (try dsimp only at H)
  by_cases c5 : a0_1 = true
  ·subst c5
   rw [if_pos rfl] at H; (try dsimp only at H); replace H := Option.bind_eq_some_iff.mp H; obtain ⟨bi, A60, H⟩ := H; (try dsimp only at H); have A6 := Aside0.mk A60; clear A60
   by_cases c7 : bi = true
   ·subst c7
    rw [if_pos rfl] at H; (try dsimp only at H)
    by_cases c8 : a0_5 = a1_0
    ·rw [if_pos c8] at H
     have c8b0 : (a0_5 == a1_0) = true := beq_iff_eq.mpr c8; have c8b1 : (a0_5 != a1_0) = false := bne_eq_false_iff_eq.mpr c8; clear c8; simp only [Option.some.injEq, Prod.mk.injEq] at H; obtain ⟨rfl, rfl, rfl, rfl, rfl, rfl⟩ := H
     go_enter Try.func53, Try.ntmps53
     go_wp2_with (first | (go_at_call 47; (with_reducible refine dmn (impl_WordOk.calls (h := A3.out) (w := _)) ?_); intro x1 hb1 hc; have hw := dsz (n := w.heap.size + 1 + 1 + 1) hb1; have z := dl3 hw) | (go_at_call 72; (with_reducible refine dmn (impl_seals.calls (h := A6.out) (w := _)) ?_); intro x2 hb2 hc; have hw := dsz (n := w.heap.size + 1 + 1 + 1) hb2; have z := dl3 hw))
     refine bodyPost_ret (drc rfl _ _ rfl (by go_simp; rfl)) rfl ?_; exact ⟨rfl, dfi⟩
    ·rw [if_neg c8] at H
     have c8b0 : (a0_5 == a1_0) = false := beq_eq_false_iff_ne.mpr c8; have c8b1 : (a0_5 != a1_0) = true := bne_iff_ne.mpr c8; replace H := Option.bind_eq_some_iff.mp H; obtain ⟨⟨bA, bB, bC, bD, bE, bF⟩, A230, H⟩ := H; (try dsimp only at H); have A23 := Aside0.mk A230; clear A230; simp only [Option.some.injEq, Prod.mk.injEq] at H; obtain ⟨rfl, rfl, rfl, rfl, rfl, rfl⟩ := H
     go_enter Try.func53, Try.ntmps53
     go_wp2_with (first | (go_at_call 47; (with_reducible refine dmn (impl_WordOk.calls (h := A3.out) (w := _)) ?_); intro x1 hb1 hc; have hw := dsz (n := w.heap.size + 1 + 1 + 1) hb1; have z := dl3 hw) | (go_at_call 72; (with_reducible refine dmn (impl_seals.calls (h := A6.out) (w := _)) ?_); intro x2 hb2 hc; have hw := dsz (n := w.heap.size + 1 + 1 + 1) hb2; have z := dl3 hw) | (go_at_call 69; (with_reducible refine dmn (impl_Bare.calls (h := A23.out) (w := _)) ?_); intro x3 hb3 hc; have hw := dsz (n := w.heap.size + 1 + 1 + 1) hb3; have z := dl3 hw))
     refine bodyPost_ret (drc rfl _ _ rfl (by go_simp; rfl)) rfl ?_; exact ⟨rfl, dfi⟩
   ·replace c7 := Bool.eq_false_iff.mpr c7
    subst c7; rw [if_neg (show ¬ (false = true) by decide)] at H; (try dsimp only at H); replace H := Option.bind_eq_some_iff.mp H; obtain ⟨⟨bG, bH, bI, bJ, bK, bL⟩, A390, H⟩ := H; (try dsimp only at H); have A39 := Aside0.mk A390; clear A390; simp only [Option.some.injEq, Prod.mk.injEq] at H; obtain ⟨rfl, rfl, rfl, rfl, rfl, rfl⟩ := H
    go_enter Try.func53, Try.ntmps53
    go_wp2_with (first | (go_at_call 47; (with_reducible refine dmn (impl_WordOk.calls (h := A3.out) (w := _)) ?_); intro x1 hb1 hc; have hw := dsz (n := w.heap.size + 1 + 1 + 1) hb1; have z := dl3 hw) | (go_at_call 72; (with_reducible refine dmn (impl_seals.calls (h := A6.out) (w := _)) ?_); intro x2 hb2 hc; have hw := dsz (n := w.heap.size + 1 + 1 + 1) hb2; have z := dl3 hw) | (go_at_call 69; (with_reducible refine dmn (impl_Bare.calls (h := A39.out) (w := _)) ?_); intro x3 hb3 hc; have hw := dsz (n := w.heap.size + 1 + 1 + 1) hb3; have z := dl3 hw))
    refine bodyPost_ret (drc rfl _ _ rfl (by go_simp; rfl)) rfl ?_; exact ⟨rfl, dfi⟩
  ·replace c5 := Bool.eq_false_iff.mpr c5
   subst c5; rw [if_neg (show ¬ (false = true) by decide)] at H; (try dsimp only at H); replace H := Option.bind_eq_some_iff.mp H; obtain ⟨⟨bM, bN, bO, bP, bQ, bR⟩, A540, H⟩ := H; (try dsimp only at H); have A54 := Aside0.mk A540; clear A540; simp only [Option.some.injEq, Prod.mk.injEq] at H; obtain ⟨rfl, rfl, rfl, rfl, rfl, rfl⟩ := H
   go_enter Try.func53, Try.ntmps53
   go_wp2_with (first | (go_at_call 47; (with_reducible refine dmn (impl_WordOk.calls (h := A3.out) (w := _)) ?_); intro x1 hb1 hc; have hw := dsz (n := w.heap.size + 1 + 1 + 1) hb1; have z := dl3 hw) | (go_at_call 69; (with_reducible refine dmn (impl_Bare.calls (h := A54.out) (w := _)) ?_); intro x2 hb2 hc; have hw := dsz (n := w.heap.size + 1 + 1 + 1) hb2; have z := dl3 hw))
   refine bodyPost_ret (drc rfl _ _ rfl (by go_simp; rfl)) rfl ?_; exact ⟨rfl, dfi⟩
 ·replace c4 := Bool.eq_false_iff.mpr c4
  subst c4; rw [if_neg (show ¬ (false = true) by decide)] at H; (try dsimp only at H); replace H := Option.bind_eq_some_iff.mp H; obtain ⟨⟨bS, bT, bU, bV, bW, bX⟩, A660, H⟩ := H; (try dsimp only at H); have A66 := Aside0.mk A660; clear A660; simp only [Option.some.injEq, Prod.mk.injEq] at H; obtain ⟨rfl, rfl, rfl, rfl, rfl, rfl⟩ := H
  go_enter Try.func53, Try.ntmps53
  go_wp2_with (first | (go_at_call 47; (with_reducible refine dmn (impl_WordOk.calls (h := A3.out) (w := _)) ?_); intro x1 hb1 hc; have hw := dsz (n := w.heap.size + 1 + 1 + 1) hb1; have z := dl3 hw) | (go_at_call 69; (with_reducible refine dmn (impl_Bare.calls (h := A66.out) (w := _)) ?_); intro x2 hb2 hc; have hw := dsz (n := w.heap.size + 1 + 1 + 1) hb2; have z := dl3 hw))
  refine bodyPost_ret (drc rfl _ _ rfl (by go_simp; rfl)) rfl ?_; exact ⟨rfl, dfi⟩
end Go.Proofs.Ytpcladboobfkhaa.PFnWork
