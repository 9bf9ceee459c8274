-- Written by a program of this session (wip/patch.py turns a copy of the kit's print): the functions that the law reaches, and their walks.
import Derived.Test.YtdbffjaolbkedaaDoorPFnExactCodeReadx0
import Derived.Test.YtdbffjaolbkedaaDoorPFnExactCodeReadx1
import Derived.Test.YtdbffjaolbkedaaDoorCFnExactCodeRead
namespace Go.Proofs.YtdbffjaolbkedaaDoor.PFnExactCodeRead
open Go.RowKit Go.Proofs.YtdbffjaolbkedaaDoorW.PrintWords Go.Proofs.YtdbffjaolbkedaaDoorW.PrintLast Go.Proofs.YtdbffjaolbkedaaDoorW.PrintMore Go.Proofs.YtdbffjaolbkedaaDoorW.Mine
attribute [local go_sem] max2_int min2_int max_two min_two max_three min_three max_four min_four   -- for this text's walks alone
set_option linter.unusedVariables false
set_option linter.unusedSimpArgs false

/-! ### spec_InsOk: function 29 -/
def spec_InsOk.f (a0_0 : Int) (a0_1 : Int) (a0_2 : Int) (a0_3 : Int) (a0_4 : Int) : Option (Bool) := (spec_l6Has.f a0_0).bind fun ba => ((spec_l1In.f a0_0 1 15).bind fun bv => (if bv = true then ((spec_l6Field.f a0_1 ((Go.bits .and .i64 ba 1) != 0)).bind fun bp => (if bp = true then ((spec_l6Field.f a0_2 ((Go.bits .and .i64 ba 2) != 0)).bind fun bn => (if bn = true then ((spec_l6Field.f a0_3 ((Go.bits .and .i64 ba 4) != 0)).bind fun bl => (if bl = true then ((spec_l1In.f a0_4 (-128) 127).bind fun bj => (if bj = true then (if (Go.bits .and .i64 ba 8) = 0 then (some (a0_4 == 0)) else (some true)) else (some false))) else (some false))) else (some false))) else (some false))) else (some false)))
set_option maxHeartbeats 8000000 in
set_option maxRecDepth 100000 in
theorem spec_InsOk.calls (a0_0 : Int) (a0_1 : Int) (a0_2 : Int) (a0_3 : Int) (a0_4 : Int) (r : Bool) (w : World) (h : spec_InsOk.f a0_0 a0_1 a0_2 a0_3 a0_4 = some r) :
  Calls Tryd.prog 29 #[.agg #[.int .i64 a0_0, .int .i64 a0_1, .int .i64 a0_2, .int .i64 a0_3, .int .i64 a0_4]] w fun e w' => e = .returned (.bool r) ∧ Below w.heap.size w w' := by
 have hu23 := Tryd.underlying23; have HB := Aside0.mk (Below.refl w.heap.size w); have H : ((spec_l6Has.f a0_0).bind fun ba => ((spec_l1In.f a0_0 1 15).bind fun bv => (if bv = true then ((spec_l6Field.f a0_1 ((Go.bits .and .i64 ba 1) != 0)).bind fun bp => (if bp = true then ((spec_l6Field.f a0_2 ((Go.bits .and .i64 ba 2) != 0)).bind fun bn => (if bn = true then ((spec_l6Field.f a0_3 ((Go.bits .and .i64 ba 4) != 0)).bind fun bl => (if bl = true then ((spec_l1In.f a0_4 (-128) 127).bind fun bj => (if bj = true then (if (Go.bits .and .i64 ba 8) = 0 then (some (a0_4 == 0)) else (some true)) else (some false))) else (some false))) else (some false))) else (some false))) else (some false)))) = some r := h; clear h; replace H := Option.bind_eq_some_iff.mp H; obtain ⟨ba, A20, H⟩ := H; replace H : ((spec_l1In.f a0_0 1 15).bind fun bv => (if bv = true then ((spec_l6Field.f a0_1 ((Go.bits .and .i64 ba 1) != 0)).bind fun bp => (if bp = true then ((spec_l6Field.f a0_2 ((Go.bits .and .i64 ba 2) != 0)).bind fun bn => (if bn = true then ((spec_l6Field.f a0_3 ((Go.bits .and .i64 ba 4) != 0)).bind fun bl => (if bl = true then ((spec_l1In.f a0_4 (-128) 127).bind fun bj => (if bj = true then (if (Go.bits .and .i64 ba 8) = 0 then (some (a0_4 == 0)) else (some true)) else (some false))) else (some false))) else (some false))) else (some false))) else (some false))) = some r := H; have A2 := Aside0.mk A20; clear A20; replace H := Option.bind_eq_some_iff.mp H; obtain ⟨bv, A30, H⟩ := H; replace H : (if bv = true then ((spec_l6Field.f a0_1 ((Go.bits .and .i64 ba 1) != 0)).bind fun bp => (if bp = true then ((spec_l6Field.f a0_2 ((Go.bits .and .i64 ba 2) != 0)).bind fun bn => (if bn = true then ((spec_l6Field.f a0_3 ((Go.bits .and .i64 ba 4) != 0)).bind fun bl => (if bl = true then ((spec_l1In.f a0_4 (-128) 127).bind fun bj => (if bj = true then (if (Go.bits .and .i64 ba 8) = 0 then (some (a0_4 == 0)) else (some true)) else (some false))) else (some false))) else (some false))) else (some false))) else (some false)) = some r := H; have A3 := Aside0.mk A30; clear A30
 by_cases c4 : bv = true
 ·subst c4
  have H1 : ((spec_l6Field.f a0_1 ((Go.bits .and .i64 ba 1) != 0)).bind fun bp => (if bp = true then ((spec_l6Field.f a0_2 ((Go.bits .and .i64 ba 2) != 0)).bind fun bn => (if bn = true then ((spec_l6Field.f a0_3 ((Go.bits .and .i64 ba 4) != 0)).bind fun bl => (if bl = true then ((spec_l1In.f a0_4 (-128) 127).bind fun bj => (if bj = true then (if (Go.bits .and .i64 ba 8) = 0 then (some (a0_4 == 0)) else (some true)) else (some false))) else (some false))) else (some false))) else (some false))) = some r := by rw [if_pos rfl] at H; exact H
  clear H; have H := H1; clear H1; replace H := Option.bind_eq_some_iff.mp H; obtain ⟨bp, A50, H⟩ := H; replace H : (if bp = true then ((spec_l6Field.f a0_2 ((Go.bits .and .i64 ba 2) != 0)).bind fun bn => (if bn = true then ((spec_l6Field.f a0_3 ((Go.bits .and .i64 ba 4) != 0)).bind fun bl => (if bl = true then ((spec_l1In.f a0_4 (-128) 127).bind fun bj => (if bj = true then (if (Go.bits .and .i64 ba 8) = 0 then (some (a0_4 == 0)) else (some true)) else (some false))) else (some false))) else (some false))) else (some false)) = some r := H; have A5 := Aside0.mk A50; clear A50
  by_cases c6 : bp = true
  ·subst c6
   have H1 : ((spec_l6Field.f a0_2 ((Go.bits .and .i64 ba 2) != 0)).bind fun bn => (if bn = true then ((spec_l6Field.f a0_3 ((Go.bits .and .i64 ba 4) != 0)).bind fun bl => (if bl = true then ((spec_l1In.f a0_4 (-128) 127).bind fun bj => (if bj = true then (if (Go.bits .and .i64 ba 8) = 0 then (some (a0_4 == 0)) else (some true)) else (some false))) else (some false))) else (some false))) = some r := by rw [if_pos rfl] at H; exact H
   clear H; have H := H1; clear H1; replace H := Option.bind_eq_some_iff.mp H; obtain ⟨bn, A70, H⟩ := H; replace H : (if bn = true then ((spec_l6Field.f a0_3 ((Go.bits .and .i64 ba 4) != 0)).bind fun bl => (if bl = true then ((spec_l1In.f a0_4 (-128) 127).bind fun bj => (if bj = true then (if (Go.bits .and .i64 ba 8) = 0 then (some (a0_4 == 0)) else (some true)) else (some false))) else (some false))) else (some false)) = some r := H; have A7 := Aside0.mk A70; clear A70
   by_cases c8 : bn = true
   ·subst c8
    have H1 : ((spec_l6Field.f a0_3 ((Go.bits .and .i64 ba 4) != 0)).bind fun bl => (if bl = true then ((spec_l1In.f a0_4 (-128) 127).bind fun bj => (if bj = true then (if (Go.bits .and .i64 ba 8) = 0 then (some (a0_4 == 0)) else (some true)) else (some false))) else (some false))) = some r := by rw [if_pos rfl] at H; exact H
    clear H; have H := H1; clear H1; replace H := Option.bind_eq_some_iff.mp H; obtain ⟨bl, A90, H⟩ := H; replace H : (if bl = true then ((spec_l1In.f a0_4 (-128) 127).bind fun bj => (if bj = true then (if (Go.bits .and .i64 ba 8) = 0 then (some (a0_4 == 0)) else (some true)) else (some false))) else (some false)) = some r := H; have A9 := Aside0.mk A90; clear A90
    by_cases c10 : bl = true
    ·subst c10
     have H1 : ((spec_l1In.f a0_4 (-128) 127).bind fun bj => (if bj = true then (if (Go.bits .and .i64 ba 8) = 0 then (some (a0_4 == 0)) else (some true)) else (some false))) = some r := by rw [if_pos rfl] at H; exact H
     clear H; have H := H1; clear H1; replace H := Option.bind_eq_some_iff.mp H; obtain ⟨bj, A110, H⟩ := H; replace H : (if bj = true then (if (Go.bits .and .i64 ba 8) = 0 then (some (a0_4 == 0)) else (some true)) else (some false)) = some r := H; have A11 := Aside0.mk A110; clear A110
     by_cases c12 : bj = true
     ·subst c12
      have H1 : (if (Go.bits .and .i64 ba 8) = 0 then (some (a0_4 == 0)) else (some true)) = some r := by rw [if_pos rfl] at H; exact H
      clear H; have H := H1; clear H1
      by_cases c13 : (Go.bits .and .i64 ba 8) = 0
      ·rw [if_pos c13] at H
       have c13b0 : ((Go.bits .and .i64 ba 8) == 0) = true := beq_iff_eq.mpr c13; have c13b1 : ((Go.bits .and .i64 ba 8) != 0) = false := bne_eq_false_iff_eq.mpr c13; clear c13; obtain rfl := Option.some.inj H
       go_enter Tryd.func29, Tryd.ntmps29
       go_wp2_with (first | ((with_reducible refine gate_dst (N := 1) rfl ?_); refine bxe 1 #[.int .i64 a0_0, .int .i64 a0_1, .int .i64 a0_2, .int .i64 a0_3, .int .i64 a0_4] 23 ?_; intro bx hg dq hbox hb; have bf := hbox; have bz := nge HB hg; have bA := nge HB hg; replace HB := nbs HB hb; clear hb hbox hg; obtain ⟨d6, d7, d8, d9, ea⟩ := c5e bf; obtain ⟨eb, ec, ed, ee, ef⟩ := z5_ bf) | ((with_reducible refine gate_callee (f := 15) rfl ?_); refine goesM (some 6) rfl rfl Tryd.func15 (by kernel_rfl) rfl #[.int .i64 a0_0] rfl ?_; (with_reducible refine (spec_l6Has.calls a0_0 ba _ A2.out).mono ?_); rintro e eg ⟨rfl, hb⟩; refine ⟨_, rfl, ?_⟩; replace bf := nblk bf hb; replace HB := nbs HB hb; (try clear hb); obtain ⟨eh, ei, ej, ek, el⟩ := c5e bf; obtain ⟨em, en, eo, ep, er⟩ := z5_ bf) | ((with_reducible refine gate_callee (f := 28) rfl ?_); refine goesM (some 9) rfl rfl Tryd.func28 (by kernel_rfl) rfl #[.int .i64 a0_0, .int .i64 1, .int .i64 15] rfl ?_; (with_reducible refine (spec_l1In.calls a0_0 1 15 true _ A3.out).mono ?_); rintro e w' ⟨rfl, ⟨nd, rfl⟩⟩; refine ⟨_, rfl, ?_⟩) | (go_at_call 40; (with_reducible refine (spec_l6Field.calls a0_1 ((Go.bits .and .i64 ba 1) != 0) true _ A5.out).mono ?_); rintro e w' ⟨rfl, ⟨nd, rfl⟩⟩) | (go_at_call 40; (with_reducible refine (spec_l6Field.calls a0_2 ((Go.bits .and .i64 ba 2) != 0) true _ A7.out).mono ?_); rintro e w' ⟨rfl, ⟨nd, rfl⟩⟩) | (go_at_call 40; (with_reducible refine (spec_l6Field.calls a0_3 ((Go.bits .and .i64 ba 4) != 0) true _ A9.out).mono ?_); rintro e w' ⟨rfl, ⟨nd, rfl⟩⟩) | (go_at_call 28; (with_reducible refine (spec_l1In.calls a0_4 (-128) 127 true _ A11.out).mono ?_); rintro e w' ⟨rfl, ⟨nd, rfl⟩⟩))
       go_ret
       exact ⟨er_, nbe HB⟩
      ·rw [if_neg c13] at H
       have c13b0 : ((Go.bits .and .i64 ba 8) == 0) = false := beq_eq_false_iff_ne.mpr c13; have c13b1 : ((Go.bits .and .i64 ba 8) != 0) = true := bne_iff_ne.mpr c13; obtain rfl := Option.some.inj H
       go_enter Tryd.func29, Tryd.ntmps29
       go_wp2_with (first | ((with_reducible refine gate_dst (N := 1) rfl ?_); refine bxe 1 #[.int .i64 a0_0, .int .i64 a0_1, .int .i64 a0_2, .int .i64 a0_3, .int .i64 a0_4] 23 ?_; intro bx hg es hbox hb; have bf := hbox; have bz := nge HB hg; have bA := nge HB hg; replace HB := nbs HB hb; clear hb hbox hg; obtain ⟨et, eu, ev, ew, ex⟩ := c5e bf; obtain ⟨ey, ez, eA, eB, eC⟩ := z5_ bf) | ((with_reducible refine gate_callee (f := 15) rfl ?_); refine goesM (some 6) rfl rfl Tryd.func15 (by kernel_rfl) rfl #[.int .i64 a0_0] rfl ?_; (with_reducible refine (spec_l6Has.calls a0_0 ba _ A2.out).mono ?_); rintro e eD ⟨rfl, hb⟩; refine ⟨_, rfl, ?_⟩; replace bf := nblk bf hb; replace HB := nbs HB hb; (try clear hb); obtain ⟨bL, bM, bN, bO, bP⟩ := c5e bf; obtain ⟨bQ, bR, bS, bT, bU⟩ := z5_ bf) | ((with_reducible refine gate_callee (f := 28) rfl ?_); refine goesM (some 9) rfl rfl Tryd.func28 (by kernel_rfl) rfl #[.int .i64 a0_0, .int .i64 1, .int .i64 15] rfl ?_; (with_reducible refine (spec_l1In.calls a0_0 1 15 true _ A3.out).mono ?_); rintro e w' ⟨rfl, ⟨nd, rfl⟩⟩; refine ⟨_, rfl, ?_⟩) | (go_at_call 40; (with_reducible refine (spec_l6Field.calls a0_1 ((Go.bits .and .i64 ba 1) != 0) true _ A5.out).mono ?_); rintro e w' ⟨rfl, ⟨nd, rfl⟩⟩) | (go_at_call 40; (with_reducible refine (spec_l6Field.calls a0_2 ((Go.bits .and .i64 ba 2) != 0) true _ A7.out).mono ?_); rintro e w' ⟨rfl, ⟨nd, rfl⟩⟩) | (go_at_call 40; (with_reducible refine (spec_l6Field.calls a0_3 ((Go.bits .and .i64 ba 4) != 0) true _ A9.out).mono ?_); rintro e w' ⟨rfl, ⟨nd, rfl⟩⟩) | (go_at_call 28; (with_reducible refine (spec_l1In.calls a0_4 (-128) 127 true _ A11.out).mono ?_); rintro e w' ⟨rfl, ⟨nd, rfl⟩⟩))
       go_ret
       exact ⟨er_, nbe HB⟩
     ·replace c12 := Bool.eq_false_iff.mpr c12
      subst c12; have H1 : (some false) = some r := by rw [if_neg (show ¬ (false = true) by decide)] at H; exact H
      clear H; have H := H1; clear H1; obtain rfl := Option.some.inj H
      go_enter Tryd.func29, Tryd.ntmps29
      go_wp2_with (first | ((with_reducible refine gate_dst (N := 1) rfl ?_); refine bxe 1 #[.int .i64 a0_0, .int .i64 a0_1, .int .i64 a0_2, .int .i64 a0_3, .int .i64 a0_4] 23 ?_; intro bx hg dr hbox hb; have bf := hbox; have bz := nge HB hg; have bA := nge HB hg; replace HB := nbs HB hb; clear hb hbox hg; obtain ⟨eE, eF, eG, eH, eI⟩ := c5e bf; obtain ⟨eJ, eK, eL, eM, eN⟩ := z5_ bf) | ((with_reducible refine gate_callee (f := 15) rfl ?_); refine goesM (some 6) rfl rfl Tryd.func15 (by kernel_rfl) rfl #[.int .i64 a0_0] rfl ?_; (with_reducible refine (spec_l6Has.calls a0_0 ba _ A2.out).mono ?_); rintro e eO ⟨rfl, hb⟩; refine ⟨_, rfl, ?_⟩; replace bf := nblk bf hb; replace HB := nbs HB hb; (try clear hb); obtain ⟨eP, eQ, eR, eS, eT⟩ := c5e bf; obtain ⟨eU, eV, eW, eX, eY⟩ := z5_ bf) | ((with_reducible refine gate_callee (f := 28) rfl ?_); refine goesM (some 9) rfl rfl Tryd.func28 (by kernel_rfl) rfl #[.int .i64 a0_0, .int .i64 1, .int .i64 15] rfl ?_; (with_reducible refine (spec_l1In.calls a0_0 1 15 true _ A3.out).mono ?_); rintro e w' ⟨rfl, ⟨nd, rfl⟩⟩; refine ⟨_, rfl, ?_⟩) | (go_at_call 40; (with_reducible refine (spec_l6Field.calls a0_1 ((Go.bits .and .i64 ba 1) != 0) true _ A5.out).mono ?_); rintro e w' ⟨rfl, ⟨nd, rfl⟩⟩) | (go_at_call 40; (with_reducible refine (spec_l6Field.calls a0_2 ((Go.bits .and .i64 ba 2) != 0) true _ A7.out).mono ?_); rintro e w' ⟨rfl, ⟨nd, rfl⟩⟩) | (go_at_call 40; (with_reducible refine (spec_l6Field.calls a0_3 ((Go.bits .and .i64 ba 4) != 0) true _ A9.out).mono ?_); rintro e w' ⟨rfl, ⟨nd, rfl⟩⟩) | (go_at_call 28; (with_reducible refine (spec_l1In.calls a0_4 (-128) 127 false _ A11.out).mono ?_); rintro e w' ⟨rfl, ⟨nd, rfl⟩⟩))
      go_ret
      exact ⟨er_, nbe HB⟩
    ·replace c10 := Bool.eq_false_iff.mpr c10
     subst c10; have H1 : (some false) = some r := by rw [if_neg (show ¬ (false = true) by decide)] at H; exact H
     clear H; have H := H1; clear H1; obtain rfl := Option.some.inj H
     go_enter Tryd.func29, Tryd.ntmps29
     go_wp2_with (first | ((with_reducible refine gate_dst (N := 1) rfl ?_); refine bxe 1 #[.int .i64 a0_0, .int .i64 a0_1, .int .i64 a0_2, .int .i64 a0_3, .int .i64 a0_4] 23 ?_; intro bx hg eZ hbox hb; have bf := hbox; have bz := nge HB hg; have bA := nge HB hg; replace HB := nbs HB hb; clear hb hbox hg; obtain ⟨e0, e1, e2, e3, e4⟩ := c5e bf; obtain ⟨e5, e6, e7, e8, e9⟩ := z5_ bf) | ((with_reducible refine gate_callee (f := 15) rfl ?_); refine goesM (some 6) rfl rfl Tryd.func15 (by kernel_rfl) rfl #[.int .i64 a0_0] rfl ?_; (with_reducible refine (spec_l6Has.calls a0_0 ba _ A2.out).mono ?_); rintro e ga ⟨rfl, hb⟩; refine ⟨_, rfl, ?_⟩; replace bf := nblk bf hb; replace HB := nbs HB hb; (try clear hb); obtain ⟨gb, gc, gd, gf, gg⟩ := c5e bf; obtain ⟨gh, gi, gj, gl, gm⟩ := z5_ bf) | ((with_reducible refine gate_callee (f := 28) rfl ?_); refine goesM (some 9) rfl rfl Tryd.func28 (by kernel_rfl) rfl #[.int .i64 a0_0, .int .i64 1, .int .i64 15] rfl ?_; (with_reducible refine (spec_l1In.calls a0_0 1 15 true _ A3.out).mono ?_); rintro e w' ⟨rfl, ⟨nd, rfl⟩⟩; refine ⟨_, rfl, ?_⟩) | (go_at_call 40; (with_reducible refine (spec_l6Field.calls a0_1 ((Go.bits .and .i64 ba 1) != 0) true _ A5.out).mono ?_); rintro e w' ⟨rfl, ⟨nd, rfl⟩⟩) | (go_at_call 40; (with_reducible refine (spec_l6Field.calls a0_2 ((Go.bits .and .i64 ba 2) != 0) true _ A7.out).mono ?_); rintro e w' ⟨rfl, ⟨nd, rfl⟩⟩) | (go_at_call 40; (with_reducible refine (spec_l6Field.calls a0_3 ((Go.bits .and .i64 ba 4) != 0) false _ A9.out).mono ?_); rintro e w' ⟨rfl, ⟨nd, rfl⟩⟩))
     go_ret
     exact ⟨er_, nbe HB⟩
   ·replace c8 := Bool.eq_false_iff.mpr c8
    subst c8; have H1 : (some false) = some r := by rw [if_neg (show ¬ (false = true) by decide)] at H; exact H
    clear H; have H := H1; clear H1; obtain rfl := Option.some.inj H
    go_enter Tryd.func29, Tryd.ntmps29
    go_wp2_with (first | ((with_reducible refine gate_dst (N := 1) rfl ?_); refine bxe 1 #[.int .i64 a0_0, .int .i64 a0_1, .int .i64 a0_2, .int .i64 a0_3, .int .i64 a0_4] 23 ?_; intro bx hg gn hbox hb; have bf := hbox; have bz := nge HB hg; have bA := nge HB hg; replace HB := nbs HB hb; clear hb hbox hg; obtain ⟨gp, gq, gr, gs, gt⟩ := c5e bf; obtain ⟨gu, gv, gw, gx, gy⟩ := z5_ bf) | ((with_reducible refine gate_callee (f := 15) rfl ?_); refine goesM (some 6) rfl rfl Tryd.func15 (by kernel_rfl) rfl #[.int .i64 a0_0] rfl ?_; (with_reducible refine (spec_l6Has.calls a0_0 ba _ A2.out).mono ?_); rintro e gz ⟨rfl, hb⟩; refine ⟨_, rfl, ?_⟩; replace bf := nblk bf hb; replace HB := nbs HB hb; (try clear hb); obtain ⟨gA, gB, gC, gD, gE⟩ := c5e bf; obtain ⟨gF, gG, gH, gI, gJ⟩ := z5_ bf) | ((with_reducible refine gate_callee (f := 28) rfl ?_); refine goesM (some 9) rfl rfl Tryd.func28 (by kernel_rfl) rfl #[.int .i64 a0_0, .int .i64 1, .int .i64 15] rfl ?_; (with_reducible refine (spec_l1In.calls a0_0 1 15 true _ A3.out).mono ?_); rintro e w' ⟨rfl, ⟨nd, rfl⟩⟩; refine ⟨_, rfl, ?_⟩) | (go_at_call 40; (with_reducible refine (spec_l6Field.calls a0_1 ((Go.bits .and .i64 ba 1) != 0) true _ A5.out).mono ?_); rintro e w' ⟨rfl, ⟨nd, rfl⟩⟩) | (go_at_call 40; (with_reducible refine (spec_l6Field.calls a0_2 ((Go.bits .and .i64 ba 2) != 0) false _ A7.out).mono ?_); rintro e w' ⟨rfl, ⟨nd, rfl⟩⟩))
    go_ret
    exact ⟨er_, nbe HB⟩
  ·replace c6 := Bool.eq_false_iff.mpr c6
   subst c6; have H1 : (some false) = some r := by rw [if_neg (show ¬ (false = true) by decide)] at H; exact H
   clear H; have H := H1; clear H1; obtain rfl := Option.some.inj H
   go_enter Tryd.func29, Tryd.ntmps29
   go_wp2_with (first | ((with_reducible refine gate_dst (N := 1) rfl ?_); refine bxe 1 #[.int .i64 a0_0, .int .i64 a0_1, .int .i64 a0_2, .int .i64 a0_3, .int .i64 a0_4] 23 ?_; intro bx hg gK hbox hb; have bf := hbox; have bz := nge HB hg; have bA := nge HB hg; replace HB := nbs HB hb; clear hb hbox hg; obtain ⟨dt, du, dv, dw, dx⟩ := c5e bf; obtain ⟨dy, dz, dA, dB, dC⟩ := z5_ bf) | ((with_reducible refine gate_callee (f := 15) rfl ?_); refine goesM (some 6) rfl rfl Tryd.func15 (by kernel_rfl) rfl #[.int .i64 a0_0] rfl ?_; (with_reducible refine (spec_l6Has.calls a0_0 ba _ A2.out).mono ?_); rintro e dD ⟨rfl, hb⟩; refine ⟨_, rfl, ?_⟩; replace bf := nblk bf hb; replace HB := nbs HB hb; (try clear hb); obtain ⟨gL, gM, gN, gO, gP⟩ := c5e bf; obtain ⟨gQ, gR, gS, gT, gU⟩ := z5_ bf) | ((with_reducible refine gate_callee (f := 28) rfl ?_); refine goesM (some 9) rfl rfl Tryd.func28 (by kernel_rfl) rfl #[.int .i64 a0_0, .int .i64 1, .int .i64 15] rfl ?_; (with_reducible refine (spec_l1In.calls a0_0 1 15 true _ A3.out).mono ?_); rintro e w' ⟨rfl, ⟨nd, rfl⟩⟩; refine ⟨_, rfl, ?_⟩) | (go_at_call 40; (with_reducible refine (spec_l6Field.calls a0_1 ((Go.bits .and .i64 ba 1) != 0) false _ A5.out).mono ?_); rintro e w' ⟨rfl, ⟨nd, rfl⟩⟩))
   go_ret
   exact ⟨er_, nbe HB⟩
 ·replace c4 := Bool.eq_false_iff.mpr c4
  subst c4; have H1 : (some false) = some r := by rw [if_neg (show ¬ (false = true) by decide)] at H; exact H
  clear H; have H := H1; clear H1; obtain rfl := Option.some.inj H
  go_enter Tryd.func29, Tryd.ntmps29
  go_wp2_with (first | ((with_reducible refine gate_dst (N := 1) rfl ?_); refine bxe 1 #[.int .i64 a0_0, .int .i64 a0_1, .int .i64 a0_2, .int .i64 a0_3, .int .i64 a0_4] 23 ?_; intro bx hg gV hbox hb; have bf := hbox; have bz := nge HB hg; have bA := nge HB hg; replace HB := nbs HB hb; clear hb hbox hg; obtain ⟨gW, gX, gY, gZ, g0⟩ := c5e bf; obtain ⟨g1, g2, g3, g4, g5⟩ := z5_ bf) | ((with_reducible refine gate_callee (f := 15) rfl ?_); refine goesM (some 6) rfl rfl Tryd.func15 (by kernel_rfl) rfl #[.int .i64 a0_0] rfl ?_; (with_reducible refine (spec_l6Has.calls a0_0 ba _ A2.out).mono ?_); rintro e g6 ⟨rfl, hb⟩; refine ⟨_, rfl, ?_⟩; replace bf := nblk bf hb; replace HB := nbs HB hb; (try clear hb); obtain ⟨dE, dF, dG, dH, dI⟩ := c5e bf; obtain ⟨dJ, dK, dL, dM, dN⟩ := z5_ bf) | ((with_reducible refine gate_callee (f := 28) rfl ?_); refine goesM (some 9) rfl rfl Tryd.func28 (by kernel_rfl) rfl #[.int .i64 a0_0, .int .i64 1, .int .i64 15] rfl ?_; (with_reducible refine (spec_l1In.calls a0_0 1 15 false _ A3.out).mono ?_); rintro e w' ⟨rfl, ⟨nd, rfl⟩⟩; refine ⟨_, rfl, ?_⟩))
  go_ret
  exact ⟨er_, nbe HB⟩

/-! ### spec_l7Digits: function 30 -/
def spec_l7Digits.l0 : Nat → Int → Bool → ByteArray → Option (ByteArray)
 | 0, _, _, _ => none
 | k + 1, x0, x3, x4 => if x0 = 0 then (if x3 = true then (if 1 + x4.size ≤ 9223372036854775807 then (some ((⟨#[45]⟩ : ByteArray) ++ x4)) else (none)) else (some x4)) else (if (Int.tmod x0 10) < 0 then ((some (([(wrap64 (48 + (wrap64 (-(Int.tmod x0 10))))) % 256] : List Int) : List Int)).bind fun bs => (if (strOfNums bs).size + x4.size ≤ 9223372036854775807 then (spec_l7Digits.l0 k (wrap64 (Int.tdiv x0 10)) x3 ((strOfNums bs) ++ x4)) else (none))) else ((some (([(wrap64 (48 + (Int.tmod x0 10))) % 256] : List Int) : List Int)).bind fun bt => (if (strOfNums bt).size + x4.size ≤ 9223372036854775807 then (spec_l7Digits.l0 k (wrap64 (Int.tdiv x0 10)) x3 ((strOfNums bt) ++ x4)) else (none))))
def spec_l7Digits.f (k : Nat) (a0 : Int) : Option (ByteArray) := if a0 = 0 then (some (⟨#[48]⟩ : ByteArray)) else (spec_l7Digits.l0 k a0 (decide (a0 < 0)) (⟨#[]⟩ : ByteArray))
theorem spec_l7Digits.mono_l : ∀ k, (∀ y0 y1 y2, LeO (spec_l7Digits.l0 k y0 y1 y2) (spec_l7Digits.l0 (k + 1) y0 y1 y2))
 | 0 => fun _ _ _ r h => by simp [spec_l7Digits.l0] at h
 | k + 1 => by
  have ih0 := spec_l7Digits.mono_l k
  ·intro y0 y1 y2
   unfold spec_l7Digits.l0
   repeat' first
   | (with_reducible exact ih0 _ _ _)
   | (with_reducible exact LeO.refl _)
   | (with_reducible exact LeO.none _)
   | (with_reducible refine LeO.ite ?_ ?_)
   | (with_reducible refine LeO.bind ?_ (fun _ => ?_))
   | exact ih0 _ _ _
   | exact LeO.none _
   | refine LeO.ite ?_ ?_
   | refine LeO.bind ?_ (fun _ => ?_)
theorem spec_l7Digits.mono : ∀ a0 k, LeO (spec_l7Digits.f k a0) (spec_l7Digits.f (k + 1) a0) := by
 intro a0 k; have ih0 := spec_l7Digits.mono_l k
 unfold spec_l7Digits.f
 repeat' first
   | (with_reducible exact ih0 _ _ _)
   | (with_reducible exact LeO.refl _)
   | (with_reducible exact LeO.none _)
   | (with_reducible refine LeO.ite ?_ ?_)
   | (with_reducible refine LeO.bind ?_ (fun _ => ?_))
   | exact ih0 _ _ _
   | exact LeO.none _
   | refine LeO.ite ?_ ?_
   | refine LeO.bind ?_ (fun _ => ?_)
set_option maxHeartbeats 8000000 in
set_option maxRecDepth 100000 in
theorem spec_l7Digits.calls (k : Nat) (a0 : Int) (r : ByteArray) (w : World) (h : spec_l7Digits.f k a0 = some r) :
  Calls Tryd.prog 30 #[.int .i64 a0] w fun e w' => e = .returned (.string r) ∧ Below w.heap.size w w' := by
 have HB := Aside0.mk (Below.refl w.heap.size w); have H : (if a0 = 0 then (some (⟨#[48]⟩ : ByteArray)) else (spec_l7Digits.l0 k a0 (decide (a0 < 0)) (⟨#[]⟩ : ByteArray))) = some r := h; clear h
 by_cases c2 : a0 = 0
 ·rw [if_pos c2] at H
  have c2b0 : (a0 == 0) = true := beq_iff_eq.mpr c2; have c2b1 : (a0 != 0) = false := bne_eq_false_iff_eq.mpr c2; clear c2; obtain rfl := Option.some.inj H
  go_enter Tryd.func30, Tryd.ntmps30
  go_wp2
  go_ret
  exact ⟨er_, nbe HB⟩
 ·rw [if_neg c2] at H
  have c2b0 : (a0 == 0) = false := beq_eq_false_iff_ne.mpr c2; have c2b1 : (a0 != 0) = true := bne_iff_ne.mpr c2; have H' := Aside0.mk H; clear H
  go_enter Tryd.func30, Tryd.ntmps30
  go_wp2
  go_loopg [0, 4] k (fun kq v0 v4 w' => ∃ (bh : Int) (bm : ByteArray), v0 = .int .i64 bh ∧ v4 = .string bm ∧ Aside0 (spec_l7Digits.l0 kq bh (decide (a0 < 0)) bm = some r) ∧ Aside0 (kq ≤ k) ∧ Aside0 (Below w.heap.size w w'))
  case atStart => exact ⟨(a0), ((⟨#[]⟩ : ByteArray)), (by first | rfl | (simp; done) | (simp [*]; done)), (by first | rfl | (simp; done) | (simp [*]; done)), H', ⟨Nat.le_refl _⟩, ⟨nbe HB⟩⟩
  case round =>
   clear H'; try clear c2
   try clear c2b0
   try clear c2b1
   try clear p2
   obtain ⟨bh, bm, rfl, rfl, HA, bH, HB⟩ := hrel
   cases gk with
   | zero => exact absurd HA.out (by simp [spec_l7Digits.l0])
   | succ k1 =>
    have H := HA.out; clear HA; simp only [spec_l7Digits.l0] at H
    by_cases c3 : bh = 0
    ·rw [if_pos c3] at H
     have c3b0 : (bh == 0) = true := beq_iff_eq.mpr c3; have c3b1 : (bh != 0) = false := bne_eq_false_iff_eq.mpr c3; clear c3
     by_cases c4 : (decide (a0 < 0)) = true
     ·rw [if_pos c4] at H
      have c4b0 : (decide (a0 < 0)) = true := c4; have c4b1 := of_decide_eq_true c4b0; have c4b2 := eq_true c4b1; clear c4
      by_cases c5 : 1 + bm.size ≤ 9223372036854775807
      ·rw [if_pos c5] at H
       have c5b0 := eq_true c5; have c5b1 : decide (1 + bm.size ≤ 9223372036854775807) = true := decide_eq_true c5
       try have c5b2 : (9223372036854775807 < 1 + bm.size) = False := eq_false (Nat.not_lt.2 c5)
       obtain rfl := Option.some.inj H; go_wp2
       go_ret
       exact ⟨er_, nbe HB⟩
      ·rw [if_neg c5] at H
       exact absurd H (by simp)
     ·rw [if_neg c4] at H
      have c4b0 : (decide (a0 < 0)) = false := (by simpa using c4); have c4b1 := of_decide_eq_false c4b0; have c4b2 := eq_false c4b1
      clear c4; obtain rfl := Option.some.inj H; go_wp2
      go_ret
      exact ⟨er_, nbe HB⟩
    ·rw [if_neg c3] at H
     have c3b0 : (bh == 0) = false := beq_eq_false_iff_ne.mpr c3; have c3b1 : (bh != 0) = true := bne_iff_ne.mpr c3
     by_cases c6 : (Int.tmod bh 10) < 0
     ·rw [if_pos c6] at H
      have c6b0 : decide ((Int.tmod bh 10) < 0) = true := decide_eq_true c6; clear c6; obtain ⟨bs, bC⟩ : ∃ y_ : List Int, y_ = (([(wrap64 (48 + (wrap64 (-(Int.tmod bh 10))))) % 256] : List Int)) := ⟨_, rfl⟩; replace H : (if (strOfNums bs).size + bm.size ≤ 9223372036854775807 then (spec_l7Digits.l0 k1 (wrap64 (Int.tdiv bh 10)) (decide (a0 < 0)) ((strOfNums bs) ++ bm)) else (none)) = some r := by first | (rw [bC]; with_reducible exact H) | (have H2_ := (Option.bind_some _ _).symm.trans H; rw [bC]; with_reducible exact H2_) | (have H2_ := (Option.bind_some _ _).symm.trans H; with_reducible exact H2_) | with_reducible exact H | (rw [bC]; exact H) | exact H
      have b0 := Aside0.mk bC; clear bC
      by_cases c7 : (strOfNums bs).size + bm.size ≤ 9223372036854775807
      ·rw [if_pos c7] at H
       have c7b0 := eq_true c7; have c7b1 : decide ((strOfNums bs).size + bm.size ≤ 9223372036854775807) = true := decide_eq_true c7
       try have c7b2 : (9223372036854775807 < (strOfNums bs).size + bm.size) = False := eq_false (Nat.not_lt.2 c7)
       have H' := Aside0.mk H; clear H
       go_wp2_with (first | ((with_reducible refine gate_dst (N := 21) rfl ?_); refine Kd.R_lit (Kd.int .u8) _ 5 ?hg (N := 21) ?hd (xs := ([(wrap64 (48 + (wrap64 (-(Int.tmod bh 10))))) % 256] : List Int)) (inner := [.int .u8 ((wrap64 (48 + (wrap64 (-(Int.tmod bh 10))))) % 256)]) (ok := fun _ => True) (okp := fun _ => True) ?hr ?hp (fun _ hk => hk) trivial (Below.refl _ _) (Nat.le_refl _) (by simp) ?_; (case hd => rfl); (case hg => rfl); (case hr => first | (go_simp; done) | (go_simp; rfl)); (case hp => exact (Reps.one (show Kd.M (Kd.int .u8) _ _ _ ((wrap64 (48 + (wrap64 (-(Int.tmod bh 10))))) % 256) [.int .u8 ((wrap64 (48 + (wrap64 (-(Int.tmod bh 10))))) % 256)] from rfl) (Reps.none _ _))); intro g7 w8 bD hb hg_ hnew_; clear hg_ hnew_; (first | rw [← b0.out] at bD | (simp only [Int.reduceToNat] at bD; rw [← b0.out] at bD)); have dO := Aside0.mk (Kd.R_lower bD (bsz HB)); replace HB := nbs HB hb; clear hb bD; have hcv10 := own_string (P := Tryd.prog) Tryd.underlying58 Tryd.underlying5 Tryd.underlying9 (Kd.own_of_R dO.out)))
       go_roundg k1
       case measure => have := bH.out; omega
       case rel => exact ⟨(wrap64 (Int.tdiv bh 10)), ((strOfNums bs) ++ bm), (by first | rfl | (simp; done) | (simp [*]; done)), (by first | rfl | (simp; done) | (simp [*]; done)), H', ⟨by have := bH.out; omega⟩, ⟨nbe HB⟩⟩
      ·rw [if_neg c7] at H
       exact absurd H (by simp)
     ·rw [if_neg c6] at H
      have c6b0 : decide ((Int.tmod bh 10) < 0) = false := decide_eq_false c6; clear c6; obtain ⟨bt, bE⟩ : ∃ y_ : List Int, y_ = (([(wrap64 (48 + (Int.tmod bh 10))) % 256] : List Int)) := ⟨_, rfl⟩; replace H : (if (strOfNums bt).size + bm.size ≤ 9223372036854775807 then (spec_l7Digits.l0 k1 (wrap64 (Int.tdiv bh 10)) (decide (a0 < 0)) ((strOfNums bt) ++ bm)) else (none)) = some r := by first | (rw [bE]; with_reducible exact H) | (have H2_ := (Option.bind_some _ _).symm.trans H; rw [bE]; with_reducible exact H2_) | (have H2_ := (Option.bind_some _ _).symm.trans H; with_reducible exact H2_) | with_reducible exact H | (rw [bE]; exact H) | exact H
      have b1 := Aside0.mk bE; clear bE
      by_cases c11 : (strOfNums bt).size + bm.size ≤ 9223372036854775807
      ·rw [if_pos c11] at H
       have c11b0 := eq_true c11; have c11b1 : decide ((strOfNums bt).size + bm.size ≤ 9223372036854775807) = true := decide_eq_true c11
       try have c11b2 : (9223372036854775807 < (strOfNums bt).size + bm.size) = False := eq_false (Nat.not_lt.2 c11)
       have H' := Aside0.mk H; clear H
       go_wp2_with (first | ((with_reducible refine gate_dst (N := 21) rfl ?_); refine Kd.R_lit (Kd.int .u8) _ 5 ?hg (N := 21) ?hd (xs := ([(wrap64 (48 + (Int.tmod bh 10))) % 256] : List Int)) (inner := [.int .u8 ((wrap64 (48 + (Int.tmod bh 10))) % 256)]) (ok := fun _ => True) (okp := fun _ => True) ?hr ?hp (fun _ hk => hk) trivial (Below.refl _ _) (Nat.le_refl _) (by simp) ?_; (case hd => rfl); (case hg => rfl); (case hr => first | (go_simp; done) | (go_simp; rfl)); (case hp => exact (Reps.one (show Kd.M (Kd.int .u8) _ _ _ ((wrap64 (48 + (Int.tmod bh 10))) % 256) [.int .u8 ((wrap64 (48 + (Int.tmod bh 10))) % 256)] from rfl) (Reps.none _ _))); intro g8 g9 bF hb hg_ hnew_; clear hg_ hnew_; (first | rw [← b1.out] at bF | (simp only [Int.reduceToNat] at bF; rw [← b1.out] at bF)); have dP := Aside0.mk (Kd.R_lower bF (bsz HB)); replace HB := nbs HB hb; clear hb bF; have hcv14 := own_string (P := Tryd.prog) Tryd.underlying58 Tryd.underlying5 Tryd.underlying9 (Kd.own_of_R dP.out)))
       go_roundg k1
       case measure => have := bH.out; omega
       case rel => exact ⟨(wrap64 (Int.tdiv bh 10)), ((strOfNums bt) ++ bm), (by first | rfl | (simp; done) | (simp [*]; done)), (by first | rfl | (simp; done) | (simp [*]; done)), H', ⟨by have := bH.out; omega⟩, ⟨nbe HB⟩⟩
      ·rw [if_neg c11] at H
       exact absurd H (by simp)

/-! ### spec_InsText: function 17 -/
mutual
def spec_InsText.j0 : Nat → Int → ByteArray → Int → Int → Int → Int → Int → Option (ByteArray)
 | 0, _, _, _, _, _, _, _ => none
 | k + 1, x3, x4, bV, bW, bI, bJ, bG => if (Go.bits .and .i64 x3 2) = 0 then (spec_InsText.j1 k x3 x4 bV bW bI bJ bG) else (if x4.size + 2 ≤ 9223372036854775807 then ((spec_l7Digits.f k bI).bind fun br => (if (x4 ++ (⟨#[32, 114]⟩ : ByteArray)).size + br.size ≤ 9223372036854775807 then (spec_InsText.j1 k x3 ((x4 ++ (⟨#[32, 114]⟩ : ByteArray)) ++ br) bV bW bI bJ bG) else (none))) else (none))
def spec_InsText.j1 : Nat → Int → ByteArray → Int → Int → Int → Int → Int → Option (ByteArray)
 | 0, _, _, _, _, _, _, _ => none
 | k + 1, x3, x4, bV, bW, bI, bJ, bG => if (Go.bits .and .i64 x3 4) = 0 then (if (Go.bits .and .i64 x3 8) = 0 then (some x4) else (if x4.size + 1 ≤ 9223372036854775807 then ((spec_l7Digits.f k bG).bind fun bu => (if (x4 ++ (⟨#[32]⟩ : ByteArray)).size + bu.size ≤ 9223372036854775807 then (some ((x4 ++ (⟨#[32]⟩ : ByteArray)) ++ bu)) else (none))) else (none))) else (if x4.size + 2 ≤ 9223372036854775807 then ((spec_l7Digits.f k bJ).bind fun bk => (if (x4 ++ (⟨#[32, 114]⟩ : ByteArray)).size + bk.size ≤ 9223372036854775807 then (if (Go.bits .and .i64 x3 8) = 0 then (some ((x4 ++ (⟨#[32, 114]⟩ : ByteArray)) ++ bk)) else (if ((x4 ++ (⟨#[32, 114]⟩ : ByteArray)) ++ bk).size + 1 ≤ 9223372036854775807 then ((spec_l7Digits.f k bG).bind fun bq => (if (((x4 ++ (⟨#[32, 114]⟩ : ByteArray)) ++ bk) ++ (⟨#[32]⟩ : ByteArray)).size + bq.size ≤ 9223372036854775807 then (some ((((x4 ++ (⟨#[32, 114]⟩ : ByteArray)) ++ bk) ++ (⟨#[32]⟩ : ByteArray)) ++ bq)) else (none))) else (none))) else (none))) else (none))
end
def spec_InsText.f (k : Nat) (a0_0 : Int) (a0_1 : Int) (a0_2 : Int) (a0_3 : Int) (a0_4 : Int) : Option (ByteArray) := (spec_InsOk.f a0_0 a0_1 a0_2 a0_3 a0_4).bind fun bB => (if bB = true then ((spec_l6Has.f a0_0).bind fun bc => ((spec_l7Names.f).bind fun bd => (if 0 ≤ a0_0 then (if a0_0 < (bd.length : Int) then (if (Go.bits .and .i64 bc 1) = 0 then (spec_InsText.j0 k bc (rdOf ByteArray.empty bd a0_0) a0_0 a0_1 a0_2 a0_3 a0_4) else (if (rdOf ByteArray.empty bd a0_0).size + 2 ≤ 9223372036854775807 then ((spec_l7Digits.f k a0_1).bind fun bi => (if ((rdOf ByteArray.empty bd a0_0) ++ (⟨#[32, 114]⟩ : ByteArray)).size + bi.size ≤ 9223372036854775807 then (spec_InsText.j0 k bc (((rdOf ByteArray.empty bd a0_0) ++ (⟨#[32, 114]⟩ : ByteArray)) ++ bi) a0_0 a0_1 a0_2 a0_3 a0_4) else (none))) else (none))) else (none)) else (none)))) else (some (⟨#[]⟩ : ByteArray)))
theorem spec_InsText.mono_l : ∀ k, (∀ y0 y1 y2 y3 y4 y5 y6, LeO (spec_InsText.j0 k y0 y1 y2 y3 y4 y5 y6) (spec_InsText.j0 (k + 1) y0 y1 y2 y3 y4 y5 y6)) ∧ (∀ y0 y1 y2 y3 y4 y5 y6, LeO (spec_InsText.j1 k y0 y1 y2 y3 y4 y5 y6) (spec_InsText.j1 (k + 1) y0 y1 y2 y3 y4 y5 y6))
 | 0 => ⟨fun _ _ _ _ _ _ _ r h => by simp [spec_InsText.j0] at h, fun _ _ _ _ _ _ _ r h => by simp [spec_InsText.j1] at h⟩
 | k + 1 => by
  obtain ⟨ih0, ih1⟩ := spec_InsText.mono_l k; refine ⟨?_, ?_⟩
  ·intro y0 y1 y2 y3 y4 y5 y6
   unfold spec_InsText.j0
   repeat' first
   | (with_reducible exact ih0 _ _ _ _ _ _ _)
   | (with_reducible exact ih1 _ _ _ _ _ _ _)
   | (with_reducible exact spec_l7Digits.mono _ _)
   | (with_reducible exact LeO.refl _)
   | (with_reducible exact LeO.none _)
   | (with_reducible refine LeO.ite ?_ ?_)
   | (with_reducible refine LeO.bind ?_ (fun _ => ?_))
   | exact ih0 _ _ _ _ _ _ _
   | exact ih1 _ _ _ _ _ _ _
   | exact spec_l7Digits.mono _ _
   | exact LeO.none _
   | refine LeO.ite ?_ ?_
   | refine LeO.bind ?_ (fun _ => ?_)
  ·intro y0 y1 y2 y3 y4 y5 y6
   unfold spec_InsText.j1
   repeat' first
   | (with_reducible exact ih0 _ _ _ _ _ _ _)
   | (with_reducible exact ih1 _ _ _ _ _ _ _)
   | (with_reducible exact spec_l7Digits.mono _ _)
   | (with_reducible exact LeO.refl _)
   | (with_reducible exact LeO.none _)
   | (with_reducible refine LeO.ite ?_ ?_)
   | (with_reducible refine LeO.bind ?_ (fun _ => ?_))
   | exact ih0 _ _ _ _ _ _ _
   | exact ih1 _ _ _ _ _ _ _
   | exact spec_l7Digits.mono _ _
   | exact LeO.none _
   | refine LeO.ite ?_ ?_
   | refine LeO.bind ?_ (fun _ => ?_)
theorem spec_InsText.mono : ∀ a0 a1 a2 a3 a4 k, LeO (spec_InsText.f k a0 a1 a2 a3 a4) (spec_InsText.f (k + 1) a0 a1 a2 a3 a4) := by
 intro a0 a1 a2 a3 a4 k; obtain ⟨ih0, ih1⟩ := spec_InsText.mono_l k
 unfold spec_InsText.f
 repeat' first
   | (with_reducible exact ih0 _ _ _ _ _ _ _)
   | (with_reducible exact ih1 _ _ _ _ _ _ _)
   | (with_reducible exact spec_l7Digits.mono _ _)
   | (with_reducible exact LeO.refl _)
   | (with_reducible exact LeO.none _)
   | (with_reducible refine LeO.ite ?_ ?_)
   | (with_reducible refine LeO.bind ?_ (fun _ => ?_))
   | exact ih0 _ _ _ _ _ _ _
   | exact ih1 _ _ _ _ _ _ _
   | exact spec_l7Digits.mono _ _
   | exact LeO.none _
   | refine LeO.ite ?_ ?_
   | refine LeO.bind ?_ (fun _ => ?_)
set_option maxHeartbeats 8000000 in
set_option maxRecDepth 100000 in
theorem spec_InsText.calls (k : Nat) (a0_0 : Int) (a0_1 : Int) (a0_2 : Int) (a0_3 : Int) (a0_4 : Int) (r : ByteArray) (w : World) (h : spec_InsText.f k a0_0 a0_1 a0_2 a0_3 a0_4 = some r) :
  Calls Tryd.prog 17 #[.agg #[.int .i64 a0_0, .int .i64 a0_1, .int .i64 a0_2, .int .i64 a0_3, .int .i64 a0_4]] w fun e w' => e = .returned (.string r) ∧ Below w.heap.size w w' := by
 have hu23 := Tryd.underlying23; have HB := Aside0.mk (Below.refl w.heap.size w); have H : ((spec_InsOk.f a0_0 a0_1 a0_2 a0_3 a0_4).bind fun bB => (if bB = true then ((spec_l6Has.f a0_0).bind fun bc => ((spec_l7Names.f).bind fun bd => (if 0 ≤ a0_0 then (if a0_0 < (bd.length : Int) then (if (Go.bits .and .i64 bc 1) = 0 then (spec_InsText.j0 k bc (rdOf ByteArray.empty bd a0_0) a0_0 a0_1 a0_2 a0_3 a0_4) else (if (rdOf ByteArray.empty bd a0_0).size + 2 ≤ 9223372036854775807 then ((spec_l7Digits.f k a0_1).bind fun bi => (if ((rdOf ByteArray.empty bd a0_0) ++ (⟨#[32, 114]⟩ : ByteArray)).size + bi.size ≤ 9223372036854775807 then (spec_InsText.j0 k bc (((rdOf ByteArray.empty bd a0_0) ++ (⟨#[32, 114]⟩ : ByteArray)) ++ bi) a0_0 a0_1 a0_2 a0_3 a0_4) else (none))) else (none))) else (none)) else (none)))) else (some (⟨#[]⟩ : ByteArray)))) = some r := h; clear h; replace H := Option.bind_eq_some_iff.mp H; obtain ⟨bB, A20, H⟩ := H; replace H : (if bB = true then ((spec_l6Has.f a0_0).bind fun bc => ((spec_l7Names.f).bind fun bd => (if 0 ≤ a0_0 then (if a0_0 < (bd.length : Int) then (if (Go.bits .and .i64 bc 1) = 0 then (spec_InsText.j0 k bc (rdOf ByteArray.empty bd a0_0) a0_0 a0_1 a0_2 a0_3 a0_4) else (if (rdOf ByteArray.empty bd a0_0).size + 2 ≤ 9223372036854775807 then ((spec_l7Digits.f k a0_1).bind fun bi => (if ((rdOf ByteArray.empty bd a0_0) ++ (⟨#[32, 114]⟩ : ByteArray)).size + bi.size ≤ 9223372036854775807 then (spec_InsText.j0 k bc (((rdOf ByteArray.empty bd a0_0) ++ (⟨#[32, 114]⟩ : ByteArray)) ++ bi) a0_0 a0_1 a0_2 a0_3 a0_4) else (none))) else (none))) else (none)) else (none)))) else (some (⟨#[]⟩ : ByteArray))) = some r := H; have A2 := Aside0.mk A20; clear A20
 by_cases c3 : bB = true
 ·subst c3
  have H1 : ((spec_l6Has.f a0_0).bind fun bc => ((spec_l7Names.f).bind fun bd => (if 0 ≤ a0_0 then (if a0_0 < (bd.length : Int) then (if (Go.bits .and .i64 bc 1) = 0 then (spec_InsText.j0 k bc (rdOf ByteArray.empty bd a0_0) a0_0 a0_1 a0_2 a0_3 a0_4) else (if (rdOf ByteArray.empty bd a0_0).size + 2 ≤ 9223372036854775807 then ((spec_l7Digits.f k a0_1).bind fun bi => (if ((rdOf ByteArray.empty bd a0_0) ++ (⟨#[32, 114]⟩ : ByteArray)).size + bi.size ≤ 9223372036854775807 then (spec_InsText.j0 k bc (((rdOf ByteArray.empty bd a0_0) ++ (⟨#[32, 114]⟩ : ByteArray)) ++ bi) a0_0 a0_1 a0_2 a0_3 a0_4) else (none))) else (none))) else (none)) else (none)))) = some r := by rw [if_pos rfl] at H; exact H
  clear H; have H := H1; clear H1; replace H := Option.bind_eq_some_iff.mp H; obtain ⟨bc, A40, H⟩ := H; replace H : ((spec_l7Names.f).bind fun bd => (if 0 ≤ a0_0 then (if a0_0 < (bd.length : Int) then (if (Go.bits .and .i64 bc 1) = 0 then (spec_InsText.j0 k bc (rdOf ByteArray.empty bd a0_0) a0_0 a0_1 a0_2 a0_3 a0_4) else (if (rdOf ByteArray.empty bd a0_0).size + 2 ≤ 9223372036854775807 then ((spec_l7Digits.f k a0_1).bind fun bi => (if ((rdOf ByteArray.empty bd a0_0) ++ (⟨#[32, 114]⟩ : ByteArray)).size + bi.size ≤ 9223372036854775807 then (spec_InsText.j0 k bc (((rdOf ByteArray.empty bd a0_0) ++ (⟨#[32, 114]⟩ : ByteArray)) ++ bi) a0_0 a0_1 a0_2 a0_3 a0_4) else (none))) else (none))) else (none)) else (none))) = some r := H; have A4 := Aside0.mk A40; clear A40; replace H := Option.bind_eq_some_iff.mp H; obtain ⟨bd, A50, H⟩ := H; replace H : (if 0 ≤ a0_0 then (if a0_0 < (bd.length : Int) then (if (Go.bits .and .i64 bc 1) = 0 then (spec_InsText.j0 k bc (rdOf ByteArray.empty bd a0_0) a0_0 a0_1 a0_2 a0_3 a0_4) else (if (rdOf ByteArray.empty bd a0_0).size + 2 ≤ 9223372036854775807 then ((spec_l7Digits.f k a0_1).bind fun bi => (if ((rdOf ByteArray.empty bd a0_0) ++ (⟨#[32, 114]⟩ : ByteArray)).size + bi.size ≤ 9223372036854775807 then (spec_InsText.j0 k bc (((rdOf ByteArray.empty bd a0_0) ++ (⟨#[32, 114]⟩ : ByteArray)) ++ bi) a0_0 a0_1 a0_2 a0_3 a0_4) else (none))) else (none))) else (none)) else (none)) = some r := H; have A5 := Aside0.mk A50; clear A50
  by_cases c6 : 0 ≤ a0_0
  ·rw [if_pos c6] at H
   have c6b0 : decide (0 ≤ a0_0) = true := decide_eq_true c6; clear c6
   by_cases c7 : a0_0 < (bd.length : Int)
   ·rw [if_pos c7] at H
    have c7b0 : decide (a0_0 < (bd.length : Int)) = true := decide_eq_true c7; clear c7; have bX := Aside0.mk H; clear H
    go_enter Tryd.func17, Tryd.ntmps17
    try go_wp2_with (first | ((with_reducible refine gate_dst (N := 1) rfl ?_); refine bxe 1 #[.int .i64 a0_0, .int .i64 a0_1, .int .i64 a0_2, .int .i64 a0_3, .int .i64 a0_4] 23 ?_; intro bw hg w9 hbox hb; have bb := hbox; have dQ := nge HB hg; have dR := nge HB hg; replace HB := nbs HB hb; clear hb hbox hg; obtain ⟨b2, b3, b4, b5, b6⟩ := c5e bb; obtain ⟨b7, b8, b9, da, db⟩ := z5_ bb) | ((with_reducible refine gate_callee (f := 29) rfl ?_); refine goesM (some 6) rfl rfl Tryd.func29 (by kernel_rfl) rfl #[.agg #[.int .i64 a0_0, .int .i64 a0_1, .int .i64 a0_2, .int .i64 a0_3, .int .i64 a0_4]] rfl ?_; (with_reducible refine (spec_InsOk.calls a0_0 a0_1 a0_2 a0_3 a0_4 true _ A2.out).mono ?_); rintro e ha ⟨rfl, hb⟩; refine ⟨_, rfl, ?_⟩; replace bb := nblk bb hb; replace HB := nbs HB hb; (try clear hb); obtain ⟨dc, dd, de, df, dg⟩ := c5e bb; obtain ⟨dh, di, dj, dk, dl⟩ := z5_ bb) | ((with_reducible refine gate_callee (f := 15) rfl ?_); refine goesM (some 10) rfl rfl Tryd.func15 (by kernel_rfl) rfl #[.int .i64 a0_0] rfl ?_; (with_reducible refine (spec_l6Has.calls a0_0 bc _ A4.out).mono ?_); rintro e dS ⟨rfl, hb⟩; refine ⟨_, rfl, ?_⟩; replace bb := nblk bb hb; replace HB := nbs HB hb; (try clear hb)))
    replace bb := Aside0.mk (blk_drew bb.out); replace HB := Aside0.mk (below_drew1 HB.out); refine start_ (n := 6) (S := fun w' => w'.cell? ⟨bw, 0, none⟩ = some (.int .i64 a0_0) ∧ w'.cell? ⟨bw, 1, none⟩ = some (.int .i64 a0_1) ∧ w'.cell? ⟨bw, 2, none⟩ = some (.int .i64 a0_2) ∧ w'.cell? ⟨bw, 3, none⟩ = some (.int .i64 a0_3) ∧ w'.cell? ⟨bw, 4, none⟩ = some (.int .i64 a0_4)) (ds := []) #[false, false, false, false, false, false] (by kernel_rfl) rfl rfl ⟨(blk_cell bb.out 0).trans rfl, (blk_cell bb.out 1).trans rfl, (blk_cell bb.out 2).trans rfl, (blk_cell bb.out 3).trans rfl, (blk_cell bb.out 4).trans rfl⟩ (fun hHeld => ?_); generalize dS.drew = dq at bb HB hHeld ⊢; refine rPk 1 12 #[false, true, false, false, false, false] ?_; refine rTk hHeld 2 13 #[false, true, true, false, false, false] ?_; refine one_ (i := 0) (N := some 11) #[true, true, true, false, false, false] rfl rfl (by kernel_rfl) (by decide) (fun K hK => ?_); refine goesR Tryd.func14 (by kernel_rfl) rfl #[] (by rfl) rfl rfl ?_; (with_reducible refine (spec_l7Names.calls  bd _ A5.out).mono ?_); rintro e hc ⟨hf, rfl, dm, hb⟩; refine ⟨_, rfl, ?_⟩; have bK := Aside0.mk (Kd.R_lower dm (bsz HB)); replace bb := nblk bb hb; replace HB := nbs HB hb; (try clear hb); (try clear dm); obtain ⟨hh, hj, dn⟩ := Kd.R_slice bK.out; (first | subst dn | (injection dn with f1_ f2_ f3_; have f4_ := f1_.symm; have f5_ := f3_.symm; clear f1_ f2_ f3_; subst f4_; subst f5_)); have p138 : 0 ≤ (a0_0 : Int) := of_decide_eq_true (by first | (with_reducible assumption) | assumption); have q138 : a0_0 < (bd.length : Int) := of_decide_eq_true (by first | (with_reducible assumption) | assumption); obtain ⟨dT, e138, bY⟩ := Kd.at_string (Kd.R_reads' bK.out).2.2 a0_0 p138 q138
    cases e138
    replace p138 := eq_true p138; replace q138 := eq_true q138; refine hK.out _ _ ⟨(blk_cell bb.out 0).trans rfl, (blk_cell bb.out 1).trans rfl, (blk_cell bb.out 2).trans rfl, (blk_cell bb.out 3).trans rfl, (blk_cell bb.out 4).trans rfl⟩ (fun hHeld => ?_); clear hK K; refine norm_ (a' := ?_) ?_ ?_; rotate_left
    ·show Act.put _ (some 11) _ = _
     simp only [Act.put, List.setIfInBounds_toArray, List.set_cons_zero, List.set_cons_succ, i64_w, i32_w]; rfl
    refine rPk 3 14 #[true, true, true, true, false, false] ?_; refine one_ (i := 4) (N := some 15) #[true, true, true, true, true, false] rfl rfl (by kernel_rfl) (by decide) (fun K hK => ?_); refine ev_step (v := .string (rdOf ByteArray.empty bd a0_0)) (w1 := hc) ?hw ?hrun ?_; (case hw => rfl); (case hrun => go_simp; try rfl); refine hK.out _ _ ⟨(blk_cell bb.out 0).trans rfl, (blk_cell bb.out 1).trans rfl, (blk_cell bb.out 2).trans rfl, (blk_cell bb.out 3).trans rfl, (blk_cell bb.out 4).trans rfl⟩ (fun hHeld => ?_); clear hK K; refine norm_ (a' := ?_) ?_ ?_; rotate_left
    ·show Act.put _ (some 15) _ = _
     simp only [Act.put, List.setIfInBounds_toArray, List.set_cons_zero, List.set_cons_succ, i64_w, i32_w]; rfl
    refine rPk 5 4 #[true, true, true, true, true, true] ?_; refine done_ (by kernel_rfl) ?_
    go_upto_if 18 with (fail)
    go_cut [4] (fun v4 wc => ∃ (kq : Nat) (bo : ByteArray), v4 = .string bo ∧ Aside0 (spec_InsText.j0 kq bc bo a0_0 a0_1 a0_2 a0_3 a0_4 = some r) ∧ Aside0 (kq ≤ k) ∧ Aside0 (wc.heap[bw]? = some (.cells #[.int .i64 a0_0, .int .i64 a0_1, .int .i64 a0_2, .int .i64 a0_3, .int .i64 a0_4] 23 (0, 0))) ∧ Aside0 (Below w.heap.size w wc))
    case first =>
     have H := bX.out; clear bX
     by_cases c17 : (Go.bits .and .i64 bc 1) = 0
     ·rw [if_pos c17] at H
      have c17b0 : ((Go.bits .and .i64 bc 1) == 0) = true := beq_iff_eq.mpr c17; have c17b1 : ((Go.bits .and .i64 bc 1) != 0) = false := bne_eq_false_iff_eq.mpr c17; clear c17; (first | rw [c17b0] | (simp only [i64_w, i32_w]; rw [c17b0]) | skip); have H' := Aside0.mk H; clear H; go_wp2
      go_meet
      case rel => exact ⟨_, (rdOf ByteArray.empty bd a0_0), (by first | rfl | (simp; done) | (simp [*]; done)), H', ⟨by first | omega | exact Nat.le_refl _⟩, ⟨nb bb⟩, ⟨nbe HB⟩⟩
     ·rw [if_neg c17] at H
      have c17b0 : ((Go.bits .and .i64 bc 1) == 0) = false := beq_eq_false_iff_ne.mpr c17; have c17b1 : ((Go.bits .and .i64 bc 1) != 0) = true := bne_iff_ne.mpr c17; (first | rw [c17b0] | (simp only [i64_w, i32_w]; rw [c17b0]) | skip)
      by_cases c18 : (rdOf ByteArray.empty bd a0_0).size + 2 ≤ 9223372036854775807
      ·rw [if_pos c18] at H
       have c18b0 := eq_true c18; have c18b1 : decide ((rdOf ByteArray.empty bd a0_0).size + 2 ≤ 9223372036854775807) = true := decide_eq_true c18
       try have c18b2 : (9223372036854775807 < (rdOf ByteArray.empty bd a0_0).size + 2) = False := eq_false (Nat.not_lt.2 c18)
       replace H := Option.bind_eq_some_iff.mp H; obtain ⟨bi, A190, H⟩ := H; replace H : (if ((rdOf ByteArray.empty bd a0_0) ++ (⟨#[32, 114]⟩ : ByteArray)).size + bi.size ≤ 9223372036854775807 then (spec_InsText.j0 k bc (((rdOf ByteArray.empty bd a0_0) ++ (⟨#[32, 114]⟩ : ByteArray)) ++ bi) a0_0 a0_1 a0_2 a0_3 a0_4) else (none)) = some r := H; have A19 := Aside0.mk A190; clear A190
       by_cases c20 : ((rdOf ByteArray.empty bd a0_0) ++ (⟨#[32, 114]⟩ : ByteArray)).size + bi.size ≤ 9223372036854775807
       ·rw [if_pos c20] at H
        have c20b0 := eq_true c20; have c20b1 : decide (((rdOf ByteArray.empty bd a0_0) ++ (⟨#[32, 114]⟩ : ByteArray)).size + bi.size ≤ 9223372036854775807) = true := decide_eq_true c20
        try have c20b2 : (9223372036854775807 < ((rdOf ByteArray.empty bd a0_0) ++ (⟨#[32, 114]⟩ : ByteArray)).size + bi.size) = False := eq_false (Nat.not_lt.2 c20)
        have c20b3 : (9223372036854775807 < (rdOf ByteArray.empty bd a0_0).size + 2 + bi.size) = False := eq_false (Nat.not_lt.2 (by have h_ := c20; simp only [ByteArray.size_append] at h_; exact h_))
        have H' := Aside0.mk H; clear H; obtain ⟨bL, bM, bN, bO, bP⟩ := c5e bb; obtain ⟨bQ, bR, bS, bT, bU⟩ := z5_ bb
        go_wp2_with (first | ((with_reducible refine gate_callee (f := 30) rfl ?_); refine goesM (some 23) rfl rfl Tryd.func30 (by kernel_rfl) rfl #[.int .i64 a0_1] rfl ?_; (with_reducible refine (spec_l7Digits.calls k a0_1 bi _ A19.out).mono ?_); rintro e dr ⟨rfl, hb⟩; refine ⟨_, rfl, ?_⟩; replace bK := nR bK hb; replace bb := nblk bb hb; replace HB := nbs HB hb; (try clear hb)))
        go_meet
        case rel => exact ⟨_, (((rdOf ByteArray.empty bd a0_0) ++ (⟨#[32, 114]⟩ : ByteArray)) ++ bi), (by first | rfl | (simp; done) | (simp [*]; done)), H', ⟨by first | omega | exact Nat.le_refl _⟩, ⟨nb bb⟩, ⟨nbe HB⟩⟩
       ·rw [if_neg c20] at H
        exact absurd H (by simp)
      ·rw [if_neg c18] at H
       exact absurd H (by simp)
    case rest =>
     clear bX; try clear c1
     try clear p1
     try clear q1
     try clear dU
     try clear c2
     try clear p2
     try clear c3
     try clear c6
     try clear c6b0
     try clear c7
     try clear c7b0
     try clear p13
     try clear q13
     try clear dV
     try clear c14
     try clear c15
     try clear c17
     try clear c17b0
     try clear c17b1
     try clear c18
     try clear c18b0
     try clear c18b1
     try clear c18b2
     try clear c20
     try clear c20b0
     try clear c20b1
     try clear c20b2
     try clear b2
     try clear b3
     try clear b4
     try clear b5
     try clear b6
     try clear dc
     try clear dd
     try clear de
     try clear df
     try clear dg
     try clear bL
     try clear bM
     try clear bN
     try clear bO
     try clear bP
     try clear b7
     try clear b8
     try clear b9
     try clear da
     try clear db
     try clear dh
     try clear di
     try clear dj
     try clear dk
     try clear dl
     try clear bQ
     try clear bR
     try clear bS
     try clear bT
     try clear bU
     try clear bY
     try clear p138
     try clear q138
     obtain ⟨kq, bo, rfl, HA, dp, bb, HB⟩ := hcut
     cases kq with
     | zero => exact absurd HA.out (by simp [spec_InsText.j0])
     | succ kj7 =>
      have H := HA.out; clear HA; simp only [spec_InsText.j0] at H; have bZ := Aside0.mk H; clear H
      go_upto_if 27 with (fail)
      go_cut [4] (fun v4 wc => ∃ (kq : Nat) (bg : ByteArray), v4 = .string bg ∧ Aside0 (spec_InsText.j1 kq bc bg a0_0 a0_1 a0_2 a0_3 a0_4 = some r) ∧ Aside0 (kq ≤ kj7) ∧ Aside0 (wc.heap[bw]? = some (.cells #[.int .i64 a0_0, .int .i64 a0_1, .int .i64 a0_2, .int .i64 a0_3, .int .i64 a0_4] 23 (0, 0))) ∧ Aside0 (Below w.heap.size w wc))
      case first =>
       have H := bZ.out; clear bZ
       by_cases c24 : (Go.bits .and .i64 bc 2) = 0
       ·rw [if_pos c24] at H
        have c24b0 : ((Go.bits .and .i64 bc 2) == 0) = true := beq_iff_eq.mpr c24; have c24b1 : ((Go.bits .and .i64 bc 2) != 0) = false := bne_eq_false_iff_eq.mpr c24; clear c24; (first | rw [c24b0] | (simp only [i64_w, i32_w]; rw [c24b0]) | skip); have H' := Aside0.mk H; clear H; go_wp2
        go_meet
        case rel => exact ⟨_, (bo), (by first | rfl | (simp; done) | (simp [*]; done)), H', ⟨by have := dp.out; first | omega | exact Nat.le_refl _⟩, ⟨nb bb⟩, ⟨nbe HB⟩⟩
       ·rw [if_neg c24] at H
        have c24b0 : ((Go.bits .and .i64 bc 2) == 0) = false := beq_eq_false_iff_ne.mpr c24; have c24b1 : ((Go.bits .and .i64 bc 2) != 0) = true := bne_iff_ne.mpr c24; (first | rw [c24b0] | (simp only [i64_w, i32_w]; rw [c24b0]) | skip)
        by_cases c25 : bo.size + 2 ≤ 9223372036854775807
        ·rw [if_pos c25] at H
         have c25b0 := eq_true c25; have c25b1 : decide (bo.size + 2 ≤ 9223372036854775807) = true := decide_eq_true c25
         try have c25b2 : (9223372036854775807 < bo.size + 2) = False := eq_false (Nat.not_lt.2 c25)
         replace H := Option.bind_eq_some_iff.mp H; obtain ⟨br, A260, H⟩ := H; replace H : (if (bo ++ (⟨#[32, 114]⟩ : ByteArray)).size + br.size ≤ 9223372036854775807 then (spec_InsText.j1 kj7 bc ((bo ++ (⟨#[32, 114]⟩ : ByteArray)) ++ br) a0_0 a0_1 a0_2 a0_3 a0_4) else (none)) = some r := H; have A26 := Aside0.mk A260; clear A260
         by_cases c27 : (bo ++ (⟨#[32, 114]⟩ : ByteArray)).size + br.size ≤ 9223372036854775807
         ·rw [if_pos c27] at H
          have c27b0 := eq_true c27; have c27b1 : decide ((bo ++ (⟨#[32, 114]⟩ : ByteArray)).size + br.size ≤ 9223372036854775807) = true := decide_eq_true c27
          try have c27b2 : (9223372036854775807 < (bo ++ (⟨#[32, 114]⟩ : ByteArray)).size + br.size) = False := eq_false (Nat.not_lt.2 c27)
          have c27b3 : (9223372036854775807 < bo.size + 2 + br.size) = False := eq_false (Nat.not_lt.2 (by have h_ := c27; simp only [ByteArray.size_append] at h_; exact h_))
          have H' := Aside0.mk H; clear H; obtain ⟨dW, dX, dY, dZ, d0⟩ := c5e bb; obtain ⟨d1, d2, d3, d4, d5⟩ := z5_ bb
          go_wp2_with (first | ((with_reducible refine gate_callee (f := 30) rfl ?_); refine goesM (some 32) rfl rfl Tryd.func30 (by kernel_rfl) rfl #[.int .i64 a0_2] rfl ?_; (with_reducible refine (spec_l7Digits.calls kj7 a0_2 br _ A26.out).mono ?_); rintro e hl ⟨rfl, hb⟩; refine ⟨_, rfl, ?_⟩; replace bb := nblk bb hb; replace HB := nbs HB hb; (try clear hb)))
          go_meet
          case rel => exact ⟨_, ((bo ++ (⟨#[32, 114]⟩ : ByteArray)) ++ br), (by first | rfl | (simp; done) | (simp [*]; done)), H', ⟨by have := dp.out; first | omega | exact Nat.le_refl _⟩, ⟨nb bb⟩, ⟨nbe HB⟩⟩
         ·rw [if_neg c27] at H
          exact absurd H (by simp)
        ·rw [if_neg c25] at H
         exact absurd H (by simp)
      case rest =>
       clear bZ; try clear c1
       try clear p1
       try clear q1
       try clear dU
       try clear c2
       try clear p2
       try clear c3
       try clear c6
       try clear c6b0
       try clear c7
       try clear c7b0
       try clear p13
       try clear q13
       try clear dV
       try clear c14
       try clear c15
       try clear c17
       try clear c17b0
       try clear c17b1
       try clear c18
       try clear c18b0
       try clear c18b1
       try clear c18b2
       try clear c20
       try clear c20b0
       try clear c20b1
       try clear c20b2
       try clear c24
       try clear c24b0
       try clear c24b1
       try clear c25
       try clear c25b0
       try clear c25b1
       try clear c25b2
       try clear c27
       try clear c27b0
       try clear c27b1
       try clear c27b2
       try clear c29
       try clear b2
       try clear b3
       try clear b4
       try clear b5
       try clear b6
       try clear dc
       try clear dd
       try clear de
       try clear df
       try clear dg
       try clear bL
       try clear bM
       try clear bN
       try clear bO
       try clear bP
       try clear dW
       try clear dX
       try clear dY
       try clear dZ
       try clear d0
       try clear b7
       try clear b8
       try clear b9
       try clear da
       try clear db
       try clear dh
       try clear di
       try clear dj
       try clear dk
       try clear dl
       try clear bQ
       try clear bR
       try clear bS
       try clear bT
       try clear bU
       try clear d1
       try clear d2
       try clear d3
       try clear d4
       try clear d5
       try clear bY
       try clear p1
       try clear p13
       try clear p138
       try clear p2
       try clear q1
       try clear q13
       try clear q138
       obtain ⟨kq, bg, rfl, HA, hm, bb, HB⟩ := hcut
       cases kq with
       | zero => exact absurd HA.out (by simp [spec_InsText.j1])
       | succ kj22 =>
        have H := HA.out; clear HA; simp only [spec_InsText.j1] at H
        by_cases c30 : (Go.bits .and .i64 bc 4) = 0
        ·rw [if_pos c30] at H
         have c30b0 : ((Go.bits .and .i64 bc 4) == 0) = true := beq_iff_eq.mpr c30; have c30b1 : ((Go.bits .and .i64 bc 4) != 0) = false := bne_eq_false_iff_eq.mpr c30; clear c30
         by_cases c31 : (Go.bits .and .i64 bc 8) = 0
         ·rw [if_pos c31] at H
          have c31b0 : ((Go.bits .and .i64 bc 8) == 0) = true := beq_iff_eq.mpr c31; have c31b1 : ((Go.bits .and .i64 bc 8) != 0) = false := bne_eq_false_iff_eq.mpr c31; clear c31; obtain rfl := Option.some.inj H; go_wp2
          go_ret
          exact ⟨er_, nbe HB⟩
         ·rw [if_neg c31] at H
          have c31b0 : ((Go.bits .and .i64 bc 8) == 0) = false := beq_eq_false_iff_ne.mpr c31; have c31b1 : ((Go.bits .and .i64 bc 8) != 0) = true := bne_iff_ne.mpr c31
          by_cases c32 : bg.size + 1 ≤ 9223372036854775807
          ·rw [if_pos c32] at H
           have c32b0 := eq_true c32; have c32b1 : decide (bg.size + 1 ≤ 9223372036854775807) = true := decide_eq_true c32
           try have c32b2 : (9223372036854775807 < bg.size + 1) = False := eq_false (Nat.not_lt.2 c32)
           replace H := Option.bind_eq_some_iff.mp H; obtain ⟨bu, A330, H⟩ := H; replace H : (if (bg ++ (⟨#[32]⟩ : ByteArray)).size + bu.size ≤ 9223372036854775807 then (some ((bg ++ (⟨#[32]⟩ : ByteArray)) ++ bu)) else (none)) = some r := H; have A33 := Aside0.mk A330; clear A330
           by_cases c34 : (bg ++ (⟨#[32]⟩ : ByteArray)).size + bu.size ≤ 9223372036854775807
           ·rw [if_pos c34] at H
            have c34b0 := eq_true c34; have c34b1 : decide ((bg ++ (⟨#[32]⟩ : ByteArray)).size + bu.size ≤ 9223372036854775807) = true := decide_eq_true c34
            try have c34b2 : (9223372036854775807 < (bg ++ (⟨#[32]⟩ : ByteArray)).size + bu.size) = False := eq_false (Nat.not_lt.2 c34)
            have c34b3 : (9223372036854775807 < bg.size + 1 + bu.size) = False := eq_false (Nat.not_lt.2 (by have h_ := c34; simp only [ByteArray.size_append] at h_; exact h_))
            obtain rfl := Option.some.inj H; obtain ⟨dt, du, dv, dw, dx⟩ := c5e bb; obtain ⟨dy, dz, dA, dB, dC⟩ := z5_ bb
            go_wp2_with (first | ((with_reducible refine gate_callee (f := 30) rfl ?_); refine goesM (some 50) rfl rfl Tryd.func30 (by kernel_rfl) rfl #[.int .i64 a0_4] rfl ?_; (with_reducible refine (spec_l7Digits.calls kj22 a0_4 bu _ A33.out).mono ?_); rintro e dD ⟨rfl, hb⟩; refine ⟨_, rfl, ?_⟩; replace bb := nblk bb hb; replace HB := nbs HB hb; (try clear hb)))
            go_ret
            exact ⟨er_, nbe HB⟩
           ·rw [if_neg c34] at H
            exact absurd H (by simp)
          ·rw [if_neg c32] at H
           exact absurd H (by simp)
        ·rw [if_neg c30] at H
         have c30b0 : ((Go.bits .and .i64 bc 4) == 0) = false := beq_eq_false_iff_ne.mpr c30; have c30b1 : ((Go.bits .and .i64 bc 4) != 0) = true := bne_iff_ne.mpr c30
         by_cases c37 : bg.size + 2 ≤ 9223372036854775807
         ·rw [if_pos c37] at H
          have c37b0 := eq_true c37; have c37b1 : decide (bg.size + 2 ≤ 9223372036854775807) = true := decide_eq_true c37
          try have c37b2 : (9223372036854775807 < bg.size + 2) = False := eq_false (Nat.not_lt.2 c37)
          replace H := Option.bind_eq_some_iff.mp H; obtain ⟨bk, A380, H⟩ := H; replace H : (if (bg ++ (⟨#[32, 114]⟩ : ByteArray)).size + bk.size ≤ 9223372036854775807 then (if (Go.bits .and .i64 bc 8) = 0 then (some ((bg ++ (⟨#[32, 114]⟩ : ByteArray)) ++ bk)) else (if ((bg ++ (⟨#[32, 114]⟩ : ByteArray)) ++ bk).size + 1 ≤ 9223372036854775807 then ((spec_l7Digits.f kj22 a0_4).bind fun bq => (if (((bg ++ (⟨#[32, 114]⟩ : ByteArray)) ++ bk) ++ (⟨#[32]⟩ : ByteArray)).size + bq.size ≤ 9223372036854775807 then (some ((((bg ++ (⟨#[32, 114]⟩ : ByteArray)) ++ bk) ++ (⟨#[32]⟩ : ByteArray)) ++ bq)) else (none))) else (none))) else (none)) = some r := H; have A38 := Aside0.mk A380; clear A380
          by_cases c39 : (bg ++ (⟨#[32, 114]⟩ : ByteArray)).size + bk.size ≤ 9223372036854775807
          ·rw [if_pos c39] at H
           have c39b0 := eq_true c39; have c39b1 : decide ((bg ++ (⟨#[32, 114]⟩ : ByteArray)).size + bk.size ≤ 9223372036854775807) = true := decide_eq_true c39
           try have c39b2 : (9223372036854775807 < (bg ++ (⟨#[32, 114]⟩ : ByteArray)).size + bk.size) = False := eq_false (Nat.not_lt.2 c39)
           have c39b3 : (9223372036854775807 < bg.size + 2 + bk.size) = False := eq_false (Nat.not_lt.2 (by have h_ := c39; simp only [ByteArray.size_append] at h_; exact h_))
           by_cases c40 : (Go.bits .and .i64 bc 8) = 0
           ·rw [if_pos c40] at H
            have c40b0 : ((Go.bits .and .i64 bc 8) == 0) = true := beq_iff_eq.mpr c40; have c40b1 : ((Go.bits .and .i64 bc 8) != 0) = false := bne_eq_false_iff_eq.mpr c40; clear c40; obtain rfl := Option.some.inj H; obtain ⟨dE, dF, dG, dH, dI⟩ := c5e bb; obtain ⟨dJ, dK, dL, dM, dN⟩ := z5_ bb
            go_wp2_with (first | ((with_reducible refine gate_callee (f := 30) rfl ?_); refine goesM (some 41) rfl rfl Tryd.func30 (by kernel_rfl) rfl #[.int .i64 a0_3] rfl ?_; (with_reducible refine (spec_l7Digits.calls kj22 a0_3 bk _ A38.out).mono ?_); rintro e hn ⟨rfl, hb⟩; refine ⟨_, rfl, ?_⟩; replace bb := nblk bb hb; replace HB := nbs HB hb; (try clear hb)))
            go_ret
            exact ⟨er_, nbe HB⟩
           ·rw [if_neg c40] at H
            have c40b0 : ((Go.bits .and .i64 bc 8) == 0) = false := beq_eq_false_iff_ne.mpr c40; have c40b1 : ((Go.bits .and .i64 bc 8) != 0) = true := bne_iff_ne.mpr c40
            by_cases c43 : ((bg ++ (⟨#[32, 114]⟩ : ByteArray)) ++ bk).size + 1 ≤ 9223372036854775807
            ·rw [if_pos c43] at H
             have c43b0 := eq_true c43; have c43b1 : decide (((bg ++ (⟨#[32, 114]⟩ : ByteArray)) ++ bk).size + 1 ≤ 9223372036854775807) = true := decide_eq_true c43
             try have c43b2 : (9223372036854775807 < ((bg ++ (⟨#[32, 114]⟩ : ByteArray)) ++ bk).size + 1) = False := eq_false (Nat.not_lt.2 c43)
             have c43b3 : (9223372036854775807 < bg.size + 2 + bk.size + 1) = False := eq_false (Nat.not_lt.2 (by have h_ := c43; simp only [ByteArray.size_append] at h_; exact h_))
             replace H := Option.bind_eq_some_iff.mp H; obtain ⟨bq, A440, H⟩ := H; replace H : (if (((bg ++ (⟨#[32, 114]⟩ : ByteArray)) ++ bk) ++ (⟨#[32]⟩ : ByteArray)).size + bq.size ≤ 9223372036854775807 then (some ((((bg ++ (⟨#[32, 114]⟩ : ByteArray)) ++ bk) ++ (⟨#[32]⟩ : ByteArray)) ++ bq)) else (none)) = some r := H; have A44 := Aside0.mk A440; clear A440
             by_cases c45 : (((bg ++ (⟨#[32, 114]⟩ : ByteArray)) ++ bk) ++ (⟨#[32]⟩ : ByteArray)).size + bq.size ≤ 9223372036854775807
             ·rw [if_pos c45] at H
              have c45b0 := eq_true c45; have c45b1 : decide ((((bg ++ (⟨#[32, 114]⟩ : ByteArray)) ++ bk) ++ (⟨#[32]⟩ : ByteArray)).size + bq.size ≤ 9223372036854775807) = true := decide_eq_true c45
              try have c45b2 : (9223372036854775807 < (((bg ++ (⟨#[32, 114]⟩ : ByteArray)) ++ bk) ++ (⟨#[32]⟩ : ByteArray)).size + bq.size) = False := eq_false (Nat.not_lt.2 c45)
              have c45b3 : (9223372036854775807 < bg.size + 2 + bk.size + 1 + bq.size) = False := eq_false (Nat.not_lt.2 (by have h_ := c45; simp only [ByteArray.size_append] at h_; exact h_))
              obtain rfl := Option.some.inj H; obtain ⟨ho, hq, hs, ht, hu⟩ := c5e bb; obtain ⟨hv, hw, hx, hy, hz⟩ := z5_ bb
              go_wp2_with (first | ((with_reducible refine gate_callee (f := 30) rfl ?_); refine goesM (some 41) rfl rfl Tryd.func30 (by kernel_rfl) rfl #[.int .i64 a0_3] rfl ?_; (with_reducible refine (spec_l7Digits.calls kj22 a0_3 bk _ A38.out).mono ?_); rintro e hA ⟨rfl, hb⟩; refine ⟨_, rfl, ?_⟩; replace bb := nblk bb hb; replace HB := nbs HB hb; (try clear hb); obtain ⟨hB, hC, hD, hE, hF⟩ := c5e bb; obtain ⟨hG, hH, hI, hJ, hL⟩ := z5_ bb) | ((with_reducible refine gate_callee (f := 30) rfl ?_); refine goesM (some 50) rfl rfl Tryd.func30 (by kernel_rfl) rfl #[.int .i64 a0_4] rfl ?_; (with_reducible refine (spec_l7Digits.calls kj22 a0_4 bq _ A44.out).mono ?_); rintro e hM ⟨rfl, hb⟩; refine ⟨_, rfl, ?_⟩; replace bb := nblk bb hb; replace HB := nbs HB hb; (try clear hb)))
              go_ret
              exact ⟨er_, nbe HB⟩
             ·rw [if_neg c45] at H
              exact absurd H (by simp)
            ·rw [if_neg c43] at H
             exact absurd H (by simp)
          ·rw [if_neg c39] at H
           exact absurd H (by simp)
         ·rw [if_neg c37] at H
          exact absurd H (by simp)
   ·rw [if_neg c7] at H
    exact absurd H (by simp)
  ·rw [if_neg c6] at H
   exact absurd H (by simp)
 ·replace c3 := Bool.eq_false_iff.mpr c3
  subst c3; have H1 : (some (⟨#[]⟩ : ByteArray)) = some r := by rw [if_neg (show ¬ (false = true) by decide)] at H; exact H
  clear H; have H := H1; clear H1; obtain rfl := Option.some.inj H
  go_enter Tryd.func17, Tryd.ntmps17
  go_wp2_with (first | ((with_reducible refine gate_dst (N := 1) rfl ?_); refine bxe 1 #[.int .i64 a0_0, .int .i64 a0_1, .int .i64 a0_2, .int .i64 a0_3, .int .i64 a0_4] 23 ?_; intro bw hg hN hbox hb; have bb := hbox; have dQ := nge HB hg; have dR := nge HB hg; replace HB := nbs HB hb; clear hb hbox hg; obtain ⟨hO, hQ, hR, hS, hT⟩ := c5e bb; obtain ⟨hU, hV, hW, hX, hY⟩ := z5_ bb) | ((with_reducible refine gate_callee (f := 29) rfl ?_); refine goesM (some 6) rfl rfl Tryd.func29 (by kernel_rfl) rfl #[.agg #[.int .i64 a0_0, .int .i64 a0_1, .int .i64 a0_2, .int .i64 a0_3, .int .i64 a0_4]] rfl ?_; (with_reducible refine (spec_InsOk.calls a0_0 a0_1 a0_2 a0_3 a0_4 false _ A2.out).mono ?_); rintro e hZ ⟨rfl, hb⟩; refine ⟨_, rfl, ?_⟩; replace bb := nblk bb hb; replace HB := nbs HB hb; (try clear hb)))
  go_ret
  exact ⟨er_, nbe HB⟩

end Go.Proofs.YtdbffjaolbkedaaDoor.PFnExactCodeRead
