-- Written by a program of this session (wip/patch.py turns a copy of the kit's print): the functions that the law reaches, and their walks.
import Derived.Test.YtopbiecjfhfhdaaPFnCodesx0
import Derived.Test.YtopbiecjfhfhdaaPFnCodesx2
import Derived.Test.YtopbiecjfhfhdaaCFnCodes
namespace Go.Proofs.Ytopbiecjfhfhdaa.PFnCodes
open Go.RowKit Go.Proofs.YtopbiecjfhfhdaaW.PrintWords Go.Proofs.YtopbiecjfhfhdaaW.PrintLast Go.Proofs.YtopbiecjfhfhdaaW.PrintMore Go.Proofs.YtopbiecjfhfhdaaW.Mine
attribute [local go_sem] max2_int min2_int max_two min_two max_three min_three max_four min_four   -- for this text's walks alone
set_option linter.unusedVariables false
set_option linter.unusedSimpArgs false

/-! ### spec_InsOk: function 13 -/
def spec_InsOk.f (a0_0 : Int) (a0_1 : Int) (a0_2 : Int) (a0_3 : Int) (a0_4 : Int) : Option (Bool) := (spec_l6Has.f a0_0).bind fun ba => ((spec_l1In.f a0_0 1 15).bind fun bs => (if bs = true then ((spec_l6Field.f a0_1 ((Go.bits .and .i64 ba 1) != 0)).bind fun bl => (if bl = true then ((spec_l6Field.f a0_2 ((Go.bits .and .i64 ba 2) != 0)).bind fun bi => (if bi = true then ((spec_l6Field.f a0_3 ((Go.bits .and .i64 ba 4) != 0)).bind fun bh => (if bh = true then ((spec_l1In.f a0_4 (-128) 127).bind fun bg => (if bg = true then (if (Go.bits .and .i64 ba 8) = 0 then (some (a0_4 == 0)) else (some true)) else (some false))) else (some false))) else (some false))) else (some false))) else (some false)))
set_option maxHeartbeats 8000000 in
set_option maxRecDepth 100000 in
theorem spec_InsOk.calls (a0_0 : Int) (a0_1 : Int) (a0_2 : Int) (a0_3 : Int) (a0_4 : Int) (r : Bool) (w : World) (h : spec_InsOk.f a0_0 a0_1 a0_2 a0_3 a0_4 = some r) :
    Calls Try.prog 13 #[.agg #[.int .i64 a0_0, .int .i64 a0_1, .int .i64 a0_2, .int .i64 a0_3, .int .i64 a0_4]] w fun e w' => e = .returned (.bool r) ∧ Below w.heap.size w w' := by
  have hu25 := Try.underlying25; have HB := Aside0.mk (Below.refl w.heap.size w); have H : ((spec_l6Has.f a0_0).bind fun ba => ((spec_l1In.f a0_0 1 15).bind fun bs => (if bs = true then ((spec_l6Field.f a0_1 ((Go.bits .and .i64 ba 1) != 0)).bind fun bl => (if bl = true then ((spec_l6Field.f a0_2 ((Go.bits .and .i64 ba 2) != 0)).bind fun bi => (if bi = true then ((spec_l6Field.f a0_3 ((Go.bits .and .i64 ba 4) != 0)).bind fun bh => (if bh = true then ((spec_l1In.f a0_4 (-128) 127).bind fun bg => (if bg = true then (if (Go.bits .and .i64 ba 8) = 0 then (some (a0_4 == 0)) else (some true)) else (some false))) else (some false))) else (some false))) else (some false))) else (some false)))) = some r := h; clear h; replace H := Option.bind_eq_some_iff.mp H; obtain ⟨ba, A20, H⟩ := H; replace H : ((spec_l1In.f a0_0 1 15).bind fun bs => (if bs = true then ((spec_l6Field.f a0_1 ((Go.bits .and .i64 ba 1) != 0)).bind fun bl => (if bl = true then ((spec_l6Field.f a0_2 ((Go.bits .and .i64 ba 2) != 0)).bind fun bi => (if bi = true then ((spec_l6Field.f a0_3 ((Go.bits .and .i64 ba 4) != 0)).bind fun bh => (if bh = true then ((spec_l1In.f a0_4 (-128) 127).bind fun bg => (if bg = true then (if (Go.bits .and .i64 ba 8) = 0 then (some (a0_4 == 0)) else (some true)) else (some false))) else (some false))) else (some false))) else (some false))) else (some false))) = some r := H; have A2 := Aside0.mk A20; clear A20; replace H := Option.bind_eq_some_iff.mp H; obtain ⟨bs, A30, H⟩ := H; replace H : (if bs = true then ((spec_l6Field.f a0_1 ((Go.bits .and .i64 ba 1) != 0)).bind fun bl => (if bl = true then ((spec_l6Field.f a0_2 ((Go.bits .and .i64 ba 2) != 0)).bind fun bi => (if bi = true then ((spec_l6Field.f a0_3 ((Go.bits .and .i64 ba 4) != 0)).bind fun bh => (if bh = true then ((spec_l1In.f a0_4 (-128) 127).bind fun bg => (if bg = true then (if (Go.bits .and .i64 ba 8) = 0 then (some (a0_4 == 0)) else (some true)) else (some false))) else (some false))) else (some false))) else (some false))) else (some false)) = some r := H; have A3 := Aside0.mk A30; clear A30
  by_cases c4 : bs = true
  · subst c4
    have H1 : ((spec_l6Field.f a0_1 ((Go.bits .and .i64 ba 1) != 0)).bind fun bl => (if bl = true then ((spec_l6Field.f a0_2 ((Go.bits .and .i64 ba 2) != 0)).bind fun bi => (if bi = true then ((spec_l6Field.f a0_3 ((Go.bits .and .i64 ba 4) != 0)).bind fun bh => (if bh = true then ((spec_l1In.f a0_4 (-128) 127).bind fun bg => (if bg = true then (if (Go.bits .and .i64 ba 8) = 0 then (some (a0_4 == 0)) else (some true)) else (some false))) else (some false))) else (some false))) else (some false))) = some r := by rw [if_pos rfl] at H; exact H
    clear H; have H := H1; clear H1; replace H := Option.bind_eq_some_iff.mp H; obtain ⟨bl, A50, H⟩ := H; replace H : (if bl = true then ((spec_l6Field.f a0_2 ((Go.bits .and .i64 ba 2) != 0)).bind fun bi => (if bi = true then ((spec_l6Field.f a0_3 ((Go.bits .and .i64 ba 4) != 0)).bind fun bh => (if bh = true then ((spec_l1In.f a0_4 (-128) 127).bind fun bg => (if bg = true then (if (Go.bits .and .i64 ba 8) = 0 then (some (a0_4 == 0)) else (some true)) else (some false))) else (some false))) else (some false))) else (some false)) = some r := H; have A5 := Aside0.mk A50; clear A50
    by_cases c6 : bl = true
    · subst c6
      have H1 : ((spec_l6Field.f a0_2 ((Go.bits .and .i64 ba 2) != 0)).bind fun bi => (if bi = true then ((spec_l6Field.f a0_3 ((Go.bits .and .i64 ba 4) != 0)).bind fun bh => (if bh = true then ((spec_l1In.f a0_4 (-128) 127).bind fun bg => (if bg = true then (if (Go.bits .and .i64 ba 8) = 0 then (some (a0_4 == 0)) else (some true)) else (some false))) else (some false))) else (some false))) = some r := by rw [if_pos rfl] at H; exact H
      clear H; have H := H1; clear H1; replace H := Option.bind_eq_some_iff.mp H; obtain ⟨bi, A70, H⟩ := H; replace H : (if bi = true then ((spec_l6Field.f a0_3 ((Go.bits .and .i64 ba 4) != 0)).bind fun bh => (if bh = true then ((spec_l1In.f a0_4 (-128) 127).bind fun bg => (if bg = true then (if (Go.bits .and .i64 ba 8) = 0 then (some (a0_4 == 0)) else (some true)) else (some false))) else (some false))) else (some false)) = some r := H; have A7 := Aside0.mk A70; clear A70
      by_cases c8 : bi = true
      · subst c8
        have H1 : ((spec_l6Field.f a0_3 ((Go.bits .and .i64 ba 4) != 0)).bind fun bh => (if bh = true then ((spec_l1In.f a0_4 (-128) 127).bind fun bg => (if bg = true then (if (Go.bits .and .i64 ba 8) = 0 then (some (a0_4 == 0)) else (some true)) else (some false))) else (some false))) = some r := by rw [if_pos rfl] at H; exact H
        clear H; have H := H1; clear H1; replace H := Option.bind_eq_some_iff.mp H; obtain ⟨bh, A90, H⟩ := H; replace H : (if bh = true then ((spec_l1In.f a0_4 (-128) 127).bind fun bg => (if bg = true then (if (Go.bits .and .i64 ba 8) = 0 then (some (a0_4 == 0)) else (some true)) else (some false))) else (some false)) = some r := H; have A9 := Aside0.mk A90; clear A90
        by_cases c10 : bh = true
        · subst c10
          have H1 : ((spec_l1In.f a0_4 (-128) 127).bind fun bg => (if bg = true then (if (Go.bits .and .i64 ba 8) = 0 then (some (a0_4 == 0)) else (some true)) else (some false))) = some r := by rw [if_pos rfl] at H; exact H
          clear H; have H := H1; clear H1; replace H := Option.bind_eq_some_iff.mp H; obtain ⟨bg, A110, H⟩ := H; replace H : (if bg = true then (if (Go.bits .and .i64 ba 8) = 0 then (some (a0_4 == 0)) else (some true)) else (some false)) = some r := H; have A11 := Aside0.mk A110; clear A110
          by_cases c12 : bg = true
          · subst c12
            have H1 : (if (Go.bits .and .i64 ba 8) = 0 then (some (a0_4 == 0)) else (some true)) = some r := by rw [if_pos rfl] at H; exact H
            clear H; have H := H1; clear H1
            by_cases c13 : (Go.bits .and .i64 ba 8) = 0
            · rw [if_pos c13] at H
              have c13b0 : ((Go.bits .and .i64 ba 8) == 0) = true := beq_iff_eq.mpr c13; have c13b1 : ((Go.bits .and .i64 ba 8) != 0) = false := bne_eq_false_iff_eq.mpr c13; clear c13; obtain rfl := Option.some.inj H
              go_enter Try.func13, Try.ntmps13
              go_wp2_with (first | ((with_reducible refine gate_dst (N := 1) rfl ?_); refine bxe 1 #[.int .i64 a0_0, .int .i64 a0_1, .int .i64 a0_2, .int .i64 a0_3, .int .i64 a0_4] 25 ?_; intro bB hg gc hbox hb; have bb := hbox; have bC := nge HB hg; have bD := nge HB hg; replace HB := nbs HB hb; clear hb hbox hg; obtain ⟨dx, dy, dz, dA, dB⟩ := c5e bb; obtain ⟨dC, dD, dE, dF, dG⟩ := z5_ bb) | ((with_reducible refine gate_callee (f := 34) rfl ?_); refine goesM (some 6) rfl rfl Try.func34 (by kernel_rfl) rfl #[.int .i64 a0_0] rfl ?_; (with_reducible refine (spec_l6Has.calls a0_0 ba _ A2.out).mono ?_); rintro e bZ ⟨rfl, hb⟩; refine ⟨_, rfl, ?_⟩; replace bb := nblk bb hb; replace HB := nbs HB hb; (try clear hb); obtain ⟨dH, dI, dJ, dK, dL⟩ := c5e bb; obtain ⟨dM, dN, dO, dP, dQ⟩ := z5_ bb) | ((with_reducible refine gate_callee (f := 36) rfl ?_); refine goesM (some 9) rfl rfl Try.func36 (by kernel_rfl) rfl #[.int .i64 a0_0, .int .i64 1, .int .i64 15] rfl ?_; (with_reducible refine (spec_l1In.calls a0_0 1 15 true _ A3.out).mono ?_); rintro e w' ⟨rfl, ⟨nd, rfl⟩⟩; refine ⟨_, rfl, ?_⟩) | (go_at_call 37; (with_reducible refine (spec_l6Field.calls a0_1 ((Go.bits .and .i64 ba 1) != 0) true _ A5.out).mono ?_); rintro e w' ⟨rfl, ⟨nd, rfl⟩⟩) | (go_at_call 37; (with_reducible refine (spec_l6Field.calls a0_2 ((Go.bits .and .i64 ba 2) != 0) true _ A7.out).mono ?_); rintro e w' ⟨rfl, ⟨nd, rfl⟩⟩) | (go_at_call 37; (with_reducible refine (spec_l6Field.calls a0_3 ((Go.bits .and .i64 ba 4) != 0) true _ A9.out).mono ?_); rintro e w' ⟨rfl, ⟨nd, rfl⟩⟩) | (go_at_call 36; (with_reducible refine (spec_l1In.calls a0_4 (-128) 127 true _ A11.out).mono ?_); rintro e w' ⟨rfl, ⟨nd, rfl⟩⟩))
              go_ret
              exact ⟨er_, nbe HB⟩
            · rw [if_neg c13] at H
              have c13b0 : ((Go.bits .and .i64 ba 8) == 0) = false := beq_eq_false_iff_ne.mpr c13; have c13b1 : ((Go.bits .and .i64 ba 8) != 0) = true := bne_iff_ne.mpr c13; obtain rfl := Option.some.inj H
              go_enter Try.func13, Try.ntmps13
              go_wp2_with (first | ((with_reducible refine gate_dst (N := 1) rfl ?_); refine bxe 1 #[.int .i64 a0_0, .int .i64 a0_1, .int .i64 a0_2, .int .i64 a0_3, .int .i64 a0_4] 25 ?_; intro bB hg dR hbox hb; have bb := hbox; have bC := nge HB hg; have bD := nge HB hg; replace HB := nbs HB hb; clear hb hbox hg; obtain ⟨gd, gf, gg, gh, gi⟩ := c5e bb; obtain ⟨gj, gl, gm, gn, gp⟩ := z5_ bb) | ((with_reducible refine gate_callee (f := 34) rfl ?_); refine goesM (some 6) rfl rfl Try.func34 (by kernel_rfl) rfl #[.int .i64 a0_0] rfl ?_; (with_reducible refine (spec_l6Has.calls a0_0 ba _ A2.out).mono ?_); rintro e gq ⟨rfl, hb⟩; refine ⟨_, rfl, ?_⟩; replace bb := nblk bb hb; replace HB := nbs HB hb; (try clear hb); obtain ⟨dS, dT, dU, dV, dW⟩ := c5e bb; obtain ⟨dX, dY, dZ, d0, d1⟩ := z5_ bb) | ((with_reducible refine gate_callee (f := 36) rfl ?_); refine goesM (some 9) rfl rfl Try.func36 (by kernel_rfl) rfl #[.int .i64 a0_0, .int .i64 1, .int .i64 15] rfl ?_; (with_reducible refine (spec_l1In.calls a0_0 1 15 true _ A3.out).mono ?_); rintro e w' ⟨rfl, ⟨nd, rfl⟩⟩; refine ⟨_, rfl, ?_⟩) | (go_at_call 37; (with_reducible refine (spec_l6Field.calls a0_1 ((Go.bits .and .i64 ba 1) != 0) true _ A5.out).mono ?_); rintro e w' ⟨rfl, ⟨nd, rfl⟩⟩) | (go_at_call 37; (with_reducible refine (spec_l6Field.calls a0_2 ((Go.bits .and .i64 ba 2) != 0) true _ A7.out).mono ?_); rintro e w' ⟨rfl, ⟨nd, rfl⟩⟩) | (go_at_call 37; (with_reducible refine (spec_l6Field.calls a0_3 ((Go.bits .and .i64 ba 4) != 0) true _ A9.out).mono ?_); rintro e w' ⟨rfl, ⟨nd, rfl⟩⟩) | (go_at_call 36; (with_reducible refine (spec_l1In.calls a0_4 (-128) 127 true _ A11.out).mono ?_); rintro e w' ⟨rfl, ⟨nd, rfl⟩⟩))
              go_ret
              exact ⟨er_, nbe HB⟩
          · replace c12 := Bool.eq_false_iff.mpr c12
            subst c12; have H1 : (some false) = some r := by rw [if_neg (show ¬ (false = true) by decide)] at H; exact H
            clear H; have H := H1; clear H1; obtain rfl := Option.some.inj H
            go_enter Try.func13, Try.ntmps13
            go_wp2_with (first | ((with_reducible refine gate_dst (N := 1) rfl ?_); refine bxe 1 #[.int .i64 a0_0, .int .i64 a0_1, .int .i64 a0_2, .int .i64 a0_3, .int .i64 a0_4] 25 ?_; intro bB hg b0 hbox hb; have bb := hbox; have bC := nge HB hg; have bD := nge HB hg; replace HB := nbs HB hb; clear hb hbox hg; obtain ⟨d2, d3, d4, d5, d6⟩ := c5e bb; obtain ⟨d7, d8, d9, ea, eb⟩ := z5_ bb) | ((with_reducible refine gate_callee (f := 34) rfl ?_); refine goesM (some 6) rfl rfl Try.func34 (by kernel_rfl) rfl #[.int .i64 a0_0] rfl ?_; (with_reducible refine (spec_l6Has.calls a0_0 ba _ A2.out).mono ?_); rintro e gr ⟨rfl, hb⟩; refine ⟨_, rfl, ?_⟩; replace bb := nblk bb hb; replace HB := nbs HB hb; (try clear hb); obtain ⟨gs, gt, gu, gv, gw⟩ := c5e bb; obtain ⟨gx, gy, gz, gA, gB⟩ := z5_ bb) | ((with_reducible refine gate_callee (f := 36) rfl ?_); refine goesM (some 9) rfl rfl Try.func36 (by kernel_rfl) rfl #[.int .i64 a0_0, .int .i64 1, .int .i64 15] rfl ?_; (with_reducible refine (spec_l1In.calls a0_0 1 15 true _ A3.out).mono ?_); rintro e w' ⟨rfl, ⟨nd, rfl⟩⟩; refine ⟨_, rfl, ?_⟩) | (go_at_call 37; (with_reducible refine (spec_l6Field.calls a0_1 ((Go.bits .and .i64 ba 1) != 0) true _ A5.out).mono ?_); rintro e w' ⟨rfl, ⟨nd, rfl⟩⟩) | (go_at_call 37; (with_reducible refine (spec_l6Field.calls a0_2 ((Go.bits .and .i64 ba 2) != 0) true _ A7.out).mono ?_); rintro e w' ⟨rfl, ⟨nd, rfl⟩⟩) | (go_at_call 37; (with_reducible refine (spec_l6Field.calls a0_3 ((Go.bits .and .i64 ba 4) != 0) true _ A9.out).mono ?_); rintro e w' ⟨rfl, ⟨nd, rfl⟩⟩) | (go_at_call 36; (with_reducible refine (spec_l1In.calls a0_4 (-128) 127 false _ A11.out).mono ?_); rintro e w' ⟨rfl, ⟨nd, rfl⟩⟩))
            go_ret
            exact ⟨er_, nbe HB⟩
        · replace c10 := Bool.eq_false_iff.mpr c10
          subst c10; have H1 : (some false) = some r := by rw [if_neg (show ¬ (false = true) by decide)] at H; exact H
          clear H; have H := H1; clear H1; obtain rfl := Option.some.inj H
          go_enter Try.func13, Try.ntmps13
          go_wp2_with (first | ((with_reducible refine gate_dst (N := 1) rfl ?_); refine bxe 1 #[.int .i64 a0_0, .int .i64 a0_1, .int .i64 a0_2, .int .i64 a0_3, .int .i64 a0_4] 25 ?_; intro bB hg gC hbox hb; have bb := hbox; have bC := nge HB hg; have bD := nge HB hg; replace HB := nbs HB hb; clear hb hbox hg; obtain ⟨gD, gE, gF, gG, gH⟩ := c5e bb; obtain ⟨gI, gJ, gK, gL, gM⟩ := z5_ bb) | ((with_reducible refine gate_callee (f := 34) rfl ?_); refine goesM (some 6) rfl rfl Try.func34 (by kernel_rfl) rfl #[.int .i64 a0_0] rfl ?_; (with_reducible refine (spec_l6Has.calls a0_0 ba _ A2.out).mono ?_); rintro e gN ⟨rfl, hb⟩; refine ⟨_, rfl, ?_⟩; replace bb := nblk bb hb; replace HB := nbs HB hb; (try clear hb); obtain ⟨gO, gP, gQ, gR, gS⟩ := c5e bb; obtain ⟨gT, gU, gV, gW, gX⟩ := z5_ bb) | ((with_reducible refine gate_callee (f := 36) rfl ?_); refine goesM (some 9) rfl rfl Try.func36 (by kernel_rfl) rfl #[.int .i64 a0_0, .int .i64 1, .int .i64 15] rfl ?_; (with_reducible refine (spec_l1In.calls a0_0 1 15 true _ A3.out).mono ?_); rintro e w' ⟨rfl, ⟨nd, rfl⟩⟩; refine ⟨_, rfl, ?_⟩) | (go_at_call 37; (with_reducible refine (spec_l6Field.calls a0_1 ((Go.bits .and .i64 ba 1) != 0) true _ A5.out).mono ?_); rintro e w' ⟨rfl, ⟨nd, rfl⟩⟩) | (go_at_call 37; (with_reducible refine (spec_l6Field.calls a0_2 ((Go.bits .and .i64 ba 2) != 0) true _ A7.out).mono ?_); rintro e w' ⟨rfl, ⟨nd, rfl⟩⟩) | (go_at_call 37; (with_reducible refine (spec_l6Field.calls a0_3 ((Go.bits .and .i64 ba 4) != 0) false _ A9.out).mono ?_); rintro e w' ⟨rfl, ⟨nd, rfl⟩⟩))
          go_ret
          exact ⟨er_, nbe HB⟩
      · replace c8 := Bool.eq_false_iff.mpr c8
        subst c8; have H1 : (some false) = some r := by rw [if_neg (show ¬ (false = true) by decide)] at H; exact H
        clear H; have H := H1; clear H1; obtain rfl := Option.some.inj H
        go_enter Try.func13, Try.ntmps13
        go_wp2_with (first | ((with_reducible refine gate_dst (N := 1) rfl ?_); refine bxe 1 #[.int .i64 a0_0, .int .i64 a0_1, .int .i64 a0_2, .int .i64 a0_3, .int .i64 a0_4] 25 ?_; intro bB hg gY hbox hb; have bb := hbox; have bC := nge HB hg; have bD := nge HB hg; replace HB := nbs HB hb; clear hb hbox hg; obtain ⟨gZ, g0, g1, g2, g3⟩ := c5e bb; obtain ⟨g4, g5, g6, g7, g8⟩ := z5_ bb) | ((with_reducible refine gate_callee (f := 34) rfl ?_); refine goesM (some 6) rfl rfl Try.func34 (by kernel_rfl) rfl #[.int .i64 a0_0] rfl ?_; (with_reducible refine (spec_l6Has.calls a0_0 ba _ A2.out).mono ?_); rintro e g9 ⟨rfl, hb⟩; refine ⟨_, rfl, ?_⟩; replace bb := nblk bb hb; replace HB := nbs HB hb; (try clear hb); obtain ⟨ha, hc, hf, hl, hm⟩ := c5e bb; obtain ⟨hn, ho, hp, hr, hs⟩ := z5_ bb) | ((with_reducible refine gate_callee (f := 36) rfl ?_); refine goesM (some 9) rfl rfl Try.func36 (by kernel_rfl) rfl #[.int .i64 a0_0, .int .i64 1, .int .i64 15] rfl ?_; (with_reducible refine (spec_l1In.calls a0_0 1 15 true _ A3.out).mono ?_); rintro e w' ⟨rfl, ⟨nd, rfl⟩⟩; refine ⟨_, rfl, ?_⟩) | (go_at_call 37; (with_reducible refine (spec_l6Field.calls a0_1 ((Go.bits .and .i64 ba 1) != 0) true _ A5.out).mono ?_); rintro e w' ⟨rfl, ⟨nd, rfl⟩⟩) | (go_at_call 37; (with_reducible refine (spec_l6Field.calls a0_2 ((Go.bits .and .i64 ba 2) != 0) false _ A7.out).mono ?_); rintro e w' ⟨rfl, ⟨nd, rfl⟩⟩))
        go_ret
        exact ⟨er_, nbe HB⟩
    · replace c6 := Bool.eq_false_iff.mpr c6
      subst c6; have H1 : (some false) = some r := by rw [if_neg (show ¬ (false = true) by decide)] at H; exact H
      clear H; have H := H1; clear H1; obtain rfl := Option.some.inj H
      go_enter Try.func13, Try.ntmps13
      go_wp2_with (first | ((with_reducible refine gate_dst (N := 1) rfl ?_); refine bxe 1 #[.int .i64 a0_0, .int .i64 a0_1, .int .i64 a0_2, .int .i64 a0_3, .int .i64 a0_4] 25 ?_; intro bB hg ht hbox hb; have bb := hbox; have bC := nge HB hg; have bD := nge HB hg; replace HB := nbs HB hb; clear hb hbox hg; obtain ⟨hu, hv, hw, hx, hy⟩ := c5e bb; obtain ⟨hz, hA, hB, hC, hD⟩ := z5_ bb) | ((with_reducible refine gate_callee (f := 34) rfl ?_); refine goesM (some 6) rfl rfl Try.func34 (by kernel_rfl) rfl #[.int .i64 a0_0] rfl ?_; (with_reducible refine (spec_l6Has.calls a0_0 ba _ A2.out).mono ?_); rintro e hE ⟨rfl, hb⟩; refine ⟨_, rfl, ?_⟩; replace bb := nblk bb hb; replace HB := nbs HB hb; (try clear hb); obtain ⟨hF, hG, hH, hI, hJ⟩ := c5e bb; obtain ⟨hK, hL, hM, hN, hO⟩ := z5_ bb) | ((with_reducible refine gate_callee (f := 36) rfl ?_); refine goesM (some 9) rfl rfl Try.func36 (by kernel_rfl) rfl #[.int .i64 a0_0, .int .i64 1, .int .i64 15] rfl ?_; (with_reducible refine (spec_l1In.calls a0_0 1 15 true _ A3.out).mono ?_); rintro e w' ⟨rfl, ⟨nd, rfl⟩⟩; refine ⟨_, rfl, ?_⟩) | (go_at_call 37; (with_reducible refine (spec_l6Field.calls a0_1 ((Go.bits .and .i64 ba 1) != 0) false _ A5.out).mono ?_); rintro e w' ⟨rfl, ⟨nd, rfl⟩⟩))
      go_ret
      exact ⟨er_, nbe HB⟩
  · replace c4 := Bool.eq_false_iff.mpr c4
    subst c4; have H1 : (some false) = some r := by rw [if_neg (show ¬ (false = true) by decide)] at H; exact H
    clear H; have H := H1; clear H1; obtain rfl := Option.some.inj H
    go_enter Try.func13, Try.ntmps13
    go_wp2_with (first | ((with_reducible refine gate_dst (N := 1) rfl ?_); refine bxe 1 #[.int .i64 a0_0, .int .i64 a0_1, .int .i64 a0_2, .int .i64 a0_3, .int .i64 a0_4] 25 ?_; intro bB hg hQ hbox hb; have bb := hbox; have bC := nge HB hg; have bD := nge HB hg; replace HB := nbs HB hb; clear hb hbox hg; obtain ⟨hR, hS, hT, hU, hV⟩ := c5e bb; obtain ⟨hW, hX, hY, hZ, h2⟩ := z5_ bb) | ((with_reducible refine gate_callee (f := 34) rfl ?_); refine goesM (some 6) rfl rfl Try.func34 (by kernel_rfl) rfl #[.int .i64 a0_0] rfl ?_; (with_reducible refine (spec_l6Has.calls a0_0 ba _ A2.out).mono ?_); rintro e h3 ⟨rfl, hb⟩; refine ⟨_, rfl, ?_⟩; replace bb := nblk bb hb; replace HB := nbs HB hb; (try clear hb); obtain ⟨h4, h5, h6, h7, h8⟩ := c5e bb; obtain ⟨h9, ia, ib, ic, ig⟩ := z5_ bb) | ((with_reducible refine gate_callee (f := 36) rfl ?_); refine goesM (some 9) rfl rfl Try.func36 (by kernel_rfl) rfl #[.int .i64 a0_0, .int .i64 1, .int .i64 15] rfl ?_; (with_reducible refine (spec_l1In.calls a0_0 1 15 false _ A3.out).mono ?_); rintro e w' ⟨rfl, ⟨nd, rfl⟩⟩; refine ⟨_, rfl, ?_⟩))
    go_ret
    exact ⟨er_, nbe HB⟩

/-! ### impl_partOf: function 39 -/
def impl_partOf.f (a0_0 : Int) (a0_1 : Int) (a0_2 : Int) (a0_3 : Int) (a0_4 : Int) (a1 : Int) : Option (Int) := if a1 = 82 then (some a0_1) else (if a1 = 65 then (some a0_2) else (if a1 = 66 then (some a0_3) else (some a0_4)))
set_option maxHeartbeats 8000000 in
set_option maxRecDepth 100000 in
theorem impl_partOf.calls (a0_0 : Int) (a0_1 : Int) (a0_2 : Int) (a0_3 : Int) (a0_4 : Int) (a1 : Int) (r : Int) (w : World) (h : impl_partOf.f a0_0 a0_1 a0_2 a0_3 a0_4 a1 = some r) :
    Calls Try.prog 39 #[.agg #[.int .i64 a0_0, .int .i64 a0_1, .int .i64 a0_2, .int .i64 a0_3, .int .i64 a0_4], .int .u8 a1] w fun e w' => e = .returned (.int .i64 r) ∧ Below w.heap.size w w' := by
  have hu25 := Try.underlying25; have HB := Aside0.mk (Below.refl w.heap.size w); have H : (if a1 = 82 then (some a0_1) else (if a1 = 65 then (some a0_2) else (if a1 = 66 then (some a0_3) else (some a0_4)))) = some r := h; clear h
  by_cases c3 : a1 = 82
  · rw [if_pos c3] at H
    have c3b0 : (a1 == 82) = true := beq_iff_eq.mpr c3; have c3b1 : (a1 != 82) = false := bne_eq_false_iff_eq.mpr c3; clear c3; obtain rfl := Option.some.inj H
    go_enter Try.func39, Try.ntmps39
    go_wp2_with (first | ((with_reducible refine gate_dst (N := 2) rfl ?_); refine bxe 2 #[.int .i64 a0_0, .int .i64 a0_1, .int .i64 a0_2, .int .i64 a0_3, .int .i64 a0_4] 25 ?_; intro bU hg w4 hbox hb; have bm := hbox; have bV := nge HB hg; have bW := nge HB hg; replace HB := nbs HB hb; clear hb hbox hg; obtain ⟨b1, b2, b3, b4, b5⟩ := c5e bm; obtain ⟨b6, b7, b8, b9, da⟩ := z5_ bm))
    go_ret
    exact ⟨er_, nbe HB⟩
  · rw [if_neg c3] at H
    have c3b0 : (a1 == 82) = false := beq_eq_false_iff_ne.mpr c3; have c3b1 : (a1 != 82) = true := bne_iff_ne.mpr c3
    by_cases c6 : a1 = 65
    · rw [if_pos c6] at H
      have c6b0 : (a1 == 65) = true := beq_iff_eq.mpr c6; have c6b1 : (a1 != 65) = false := bne_eq_false_iff_eq.mpr c6; clear c6; obtain rfl := Option.some.inj H
      go_enter Try.func39, Try.ntmps39
      go_wp2_with (first | ((with_reducible refine gate_dst (N := 2) rfl ?_); refine bxe 2 #[.int .i64 a0_0, .int .i64 a0_1, .int .i64 a0_2, .int .i64 a0_3, .int .i64 a0_4] 25 ?_; intro bU hg w7 hbox hb; have bm := hbox; have bV := nge HB hg; have bW := nge HB hg; replace HB := nbs HB hb; clear hb hbox hg; obtain ⟨ec, ed, ee, ef, eg⟩ := c5e bm; obtain ⟨eh, ei, ej, ek, el⟩ := z5_ bm))
      go_ret
      exact ⟨er_, nbe HB⟩
    · rw [if_neg c6] at H
      have c6b0 : (a1 == 65) = false := beq_eq_false_iff_ne.mpr c6; have c6b1 : (a1 != 65) = true := bne_iff_ne.mpr c6
      by_cases c9 : a1 = 66
      · rw [if_pos c9] at H
        have c9b0 : (a1 == 66) = true := beq_iff_eq.mpr c9; have c9b1 : (a1 != 66) = false := bne_eq_false_iff_eq.mpr c9; clear c9; obtain rfl := Option.some.inj H
        go_enter Try.func39, Try.ntmps39
        go_wp2_with (first | ((with_reducible refine gate_dst (N := 2) rfl ?_); refine bxe 2 #[.int .i64 a0_0, .int .i64 a0_1, .int .i64 a0_2, .int .i64 a0_3, .int .i64 a0_4] 25 ?_; intro bU hg db hbox hb; have bm := hbox; have bV := nge HB hg; have bW := nge HB hg; replace HB := nbs HB hb; clear hb hbox hg; obtain ⟨dc, dd, de, df, dg⟩ := c5e bm; obtain ⟨dh, di, dj, dk, dl⟩ := z5_ bm))
        go_ret
        exact ⟨er_, nbe HB⟩
      · rw [if_neg c9] at H
        have c9b0 : (a1 == 66) = false := beq_eq_false_iff_ne.mpr c9; have c9b1 : (a1 != 66) = true := bne_iff_ne.mpr c9; obtain rfl := Option.some.inj H
        go_enter Try.func39, Try.ntmps39
        go_wp2_with (first | ((with_reducible refine gate_dst (N := 2) rfl ?_); refine bxe 2 #[.int .i64 a0_0, .int .i64 a0_1, .int .i64 a0_2, .int .i64 a0_3, .int .i64 a0_4] 25 ?_; intro bU hg dm hbox hb; have bm := hbox; have bV := nge HB hg; have bW := nge HB hg; replace HB := nbs HB hb; clear hb hbox hg; obtain ⟨em, en, eo, ep, er⟩ := c5e bm; obtain ⟨es, et, eu, ev, ew⟩ := z5_ bm))
        go_ret
        exact ⟨er_, nbe HB⟩

/-! ### impl_in: function 40 -/
def impl_in.f (a0 : Int) (a1 : Int) (a2 : Int) : Option (Bool) := if a0 ≥ a1 then (some (decide (a0 ≤ a2))) else (some false)
set_option maxHeartbeats 8000000 in
set_option maxRecDepth 100000 in
theorem impl_in.calls (a0 : Int) (a1 : Int) (a2 : Int) (r : Bool) (w : World) (h : impl_in.f a0 a1 a2 = some r) :
    Calls Try.prog 40 #[.int .i64 a0, .int .i64 a1, .int .i64 a2] w fun e w' => e = .returned (.bool r) ∧ Drawn0 w w' := by
  have H : (if a0 ≥ a1 then (some (decide (a0 ≤ a2))) else (some false)) = some r := h; clear h
  by_cases c4 : a0 ≥ a1
  · rw [if_pos c4] at H
    have c4b0 : decide (a1 ≤ a0) = true := decide_eq_true c4; clear c4; obtain rfl := Option.some.inj H
    go_enter Try.func40, Try.ntmps40
    go_wp2
    go_ret
    exact ⟨by first | rfl | (simp; done) | (simp [*]; done), by repeat (first | exact Drawn0.refl _ | apply Drawn0.step)⟩
  · rw [if_neg c4] at H
    have c4b0 : decide (a1 ≤ a0) = false := decide_eq_false c4; clear c4; obtain rfl := Option.some.inj H
    go_enter Try.func40, Try.ntmps40
    go_wp2
    go_ret
    exact ⟨by first | rfl | (simp; done) | (simp [*]; done), by repeat (first | exact Drawn0.refl _ | apply Drawn0.step)⟩

/-! ### impl_InsOk: function 14 -/
def impl_InsOk.l0 : Nat → Bool → Int → Int → Int → Int → Int → Int → Option (Bool)
  | 0, _, _, _, _, _, _, _ => none
  | k + 1, x4, i, op, r, a, b, n => if i < 4 then (if 0 ≤ i then ((impl_partOf.f op r a b n (rd [82, 65, 66, 78] i)).bind fun t => ((impl_hasPart.f k op r a b n (rd [82, 65, 66, 78] i)).bind fun h => (if h = true then (if (rd [82, 65, 66, 78] i) = 78 then (if x4 = true then ((impl_in.f t (-128) 127).bind fun q => (impl_InsOk.l0 k q (wrap64 (i + 1)) op r a b n)) else (impl_InsOk.l0 k false (wrap64 (i + 1)) op r a b n)) else (if x4 = true then ((impl_in.f t 0 7).bind fun q => (impl_InsOk.l0 k q (wrap64 (i + 1)) op r a b n)) else (impl_InsOk.l0 k false (wrap64 (i + 1)) op r a b n))) else (if x4 = true then (impl_InsOk.l0 k (t == 0) (wrap64 (i + 1)) op r a b n) else (impl_InsOk.l0 k false (wrap64 (i + 1)) op r a b n))))) else none) else (some x4)
def impl_InsOk.f (k : Nat) (a0_0 : Int) (a0_1 : Int) (a0_2 : Int) (a0_3 : Int) (a0_4 : Int) : Option (Bool) := (impl_formOf.f k a0_0).bind fun bt => (impl_InsOk.l0 k bt.2 0 a0_0 a0_1 a0_2 a0_3 a0_4)
theorem impl_InsOk.mono_l : ∀ k, (∀ y0 y1 y2 y3 y4 y5 y6, LeO (impl_InsOk.l0 k y0 y1 y2 y3 y4 y5 y6) (impl_InsOk.l0 (k + 1) y0 y1 y2 y3 y4 y5 y6))
  | 0 => fun _ _ _ _ _ _ _ r h => by simp [impl_InsOk.l0] at h
  | k + 1 => by
    have ih0 := impl_InsOk.mono_l k
    · intro y0 y1 y2 y3 y4 y5 y6
      unfold impl_InsOk.l0
      repeat' first
      | (with_reducible exact ih0 _ _ _ _ _ _ _)
      | (with_reducible exact impl_hasPart.mono _ _ _ _ _ _ _)
      | (with_reducible exact impl_formOf.mono _ _)
      | (with_reducible exact LeO.refl _)
      | (with_reducible exact LeO.none _)
      | (with_reducible refine LeO.ite ?_ ?_)
      | (with_reducible refine LeO.bind ?_ (fun _ => ?_))
      | exact ih0 _ _ _ _ _ _ _
      | exact impl_hasPart.mono _ _ _ _ _ _ _
      | exact impl_formOf.mono _ _
      | exact LeO.none _
      | refine LeO.ite ?_ ?_
      | refine LeO.bind ?_ (fun _ => ?_)
theorem impl_InsOk.mono : ∀ a0 a1 a2 a3 a4 k, LeO (impl_InsOk.f k a0 a1 a2 a3 a4) (impl_InsOk.f (k + 1) a0 a1 a2 a3 a4) := by
  intro a0 a1 a2 a3 a4 k; have ih0 := impl_InsOk.mono_l k
  unfold impl_InsOk.f
  repeat' first
      | (with_reducible exact ih0 _ _ _ _ _ _ _)
      | (with_reducible exact impl_hasPart.mono _ _ _ _ _ _ _)
      | (with_reducible exact impl_formOf.mono _ _)
      | (with_reducible exact LeO.refl _)
      | (with_reducible exact LeO.none _)
      | (with_reducible refine LeO.ite ?_ ?_)
      | (with_reducible refine LeO.bind ?_ (fun _ => ?_))
      | exact ih0 _ _ _ _ _ _ _
      | exact impl_hasPart.mono _ _ _ _ _ _ _
      | exact impl_formOf.mono _ _
      | exact LeO.none _
      | refine LeO.ite ?_ ?_
      | refine LeO.bind ?_ (fun _ => ?_)
theorem impl_InsOk.mk_cell {W : World} {g : Nat} {cs : Array Value} {t : TypeId} {fr : Nat × Nat} {v : Value} (h : W.heap[g]? = some (.cells cs t fr)) (j : Nat) (hj : cs[j]? = some v) : W.cell? ⟨g, j, none⟩ = some v := by
  simp [World.cell?, h, hj]
theorem impl_InsOk.byte {W : World} {g : Nat} (h : W.heap[g]? = some (.cells #[.int .u8 82, .int .u8 65, .int .u8 66, .int .u8 78] 5 (4, 5))) (i : Int) (h0 : 0 ≤ i) (h1 : i < 4) : W.cell? ⟨g, i.toNat, none⟩ = some (.int .u8 (rd [82, 65, 66, 78] i)) := by
  rcases (show i = 0 ∨ i = 1 ∨ i = 2 ∨ i = 3 by omega) with rfl | rfl | rfl | rfl <;> exact impl_InsOk.mk_cell h _ rfl
set_option maxHeartbeats 8000000 in
set_option maxRecDepth 100000 in
theorem impl_InsOk.calls (k : Nat) (a0_0 : Int) (a0_1 : Int) (a0_2 : Int) (a0_3 : Int) (a0_4 : Int) (r : Bool) (w : World) (h : impl_InsOk.f k a0_0 a0_1 a0_2 a0_3 a0_4 = some r) :
  Calls Try.prog 14 #[.agg #[.int .i64 a0_0, .int .i64 a0_1, .int .i64 a0_2, .int .i64 a0_3, .int .i64 a0_4]] w fun e w' => e = .returned (.bool r) ∧ Below w.heap.size w w' := by
 obtain ⟨⟨s, b⟩, A80, H⟩ := Option.bind_eq_some_iff.mp h; have A8 := Aside0.mk A80; have H' : Aside0 (impl_InsOk.l0 k b 0 a0_0 a0_1 a0_2 a0_3 a0_4 = some r) := ⟨H⟩; clear A80 h H; have HB := Aside0.mk (Below.refl w.heap.size w); have kc : ∀ W : World, (convert 42 42 (.slice (some ⟨W.heap.size, 0, none⟩) 4 4)).run Try.prog (W.alloc (.cells #[.int .u8 82, .int .u8 65, .int .u8 66, .int .u8 78] 5)) = .ok (.slice (some ⟨W.heap.size, 0, none⟩) 4 4) (W.alloc (.cells #[.int .u8 82, .int .u8 65, .int .u8 66, .int .u8 78] 5 (4, 5))) := fun W => Lib.run_convert_bytes_const (P := Try.prog) W 42 5 _ 4 4 Try.underlying42 Try.underlying5
 go_enter Try.func14, Try.ntmps14
 go_wp2_with (first | ((with_reducible refine gate_dst (N := 1) rfl ?_); refine bxe 1 #[.int .i64 a0_0, .int .i64 a0_1, .int .i64 a0_2, .int .i64 a0_3, .int .i64 a0_4] 25 ?_; intro gb hg w3 hbox hb; have BK := hbox; replace HB := nbs HB hb; clear hb hbox hg; obtain ⟨hcz_0, hcz_1, hcz_2, hcz_3, hcz_4⟩ := c5e BK) | ((with_reducible refine gate_callee (f := 38) rfl ?_); refine goesM (some 11) rfl rfl Try.func38 (by kernel_rfl) rfl #[.int .i64 a0_0] rfl ?_; (with_reducible refine (impl_formOf.calls k a0_0 s b _ A8.out).mono ?_); rintro e w4 ⟨rfl, hd⟩; have hb := hd.below; refine ⟨_, rfl, ?_⟩; replace BK := nblk BK hb; replace HB := nbs HB hb; clear hb hd hcz_0 hcz_1 hcz_2 hcz_3 hcz_4))
 have BY : Aside0 ((w4.alloc (.cells #[.int .u8 82, .int .u8 65, .int .u8 66, .int .u8 78] 5 (4, 5))).heap[w4.heap.size]? = some (.cells #[.int .u8 82, .int .u8 65, .int .u8 66, .int .u8 78] 5 (4, 5))) := ⟨by show (w4.heap.push _)[w4.heap.size]? = _; simp⟩; clear kc
 go_loopg [4, 17] k (fun kq v4 ex w' => ∃ (x4 : Bool) (bp : Int), v4 = .bool x4 ∧ ex = .int .i64 bp ∧ Aside0 (impl_InsOk.l0 kq x4 bp a0_0 a0_1 a0_2 a0_3 a0_4 = some r) ∧ Aside0 (kq ≤ k) ∧ Aside0 (w'.heap[w4.heap.size]? = some (.cells #[.int .u8 82, .int .u8 65, .int .u8 66, .int .u8 78] 5 (4, 5))) ∧ Aside0 (w'.heap[gb]? = some (.cells #[.int .i64 a0_0, .int .i64 a0_1, .int .i64 a0_2, .int .i64 a0_3, .int .i64 a0_4] 25 (0, 0))) ∧ Aside0 (Below w.heap.size w w'))
 case atStart => exact ⟨b, 0, rfl, rfl, H', ⟨Nat.le_refl _⟩, BY, ⟨blk_alloc BK.out _⟩, ⟨below_alloc HB.out _⟩⟩
 case round =>
  clear H' BY BK HB; obtain ⟨x4, bp, rfl, rfl, HA, HK, BY, BK, HB⟩ := hrel
  cases gk with
  | zero => exact absurd HA.out (by simp [impl_InsOk.l0])
  | succ k1 =>
   have H := HA.out; clear HA; simp only [impl_InsOk.l0] at H
   by_cases c8 : bp < 4
   · rw [if_pos c8] at H
     by_cases c9 : 0 ≤ bp
     · rw [if_pos c9] at H
       replace H := Option.bind_eq_some_iff.mp H; obtain ⟨t, A110, H⟩ := H; have A11 := Aside0.mk A110; replace H := Option.bind_eq_some_iff.mp H; obtain ⟨hh, A120, H⟩ := H; have A12 := Aside0.mk A120; clear A110 A120; have hby := impl_InsOk.byte BY.out bp c9 c8; obtain ⟨hcz_0, hcz_1, hcz_2, hcz_3, hcz_4⟩ := c5e BK; have c8b : decide (bp < (4 : Int)) = true := decide_eq_true c8; have c9b : decide (0 ≤ bp) = true := decide_eq_true c9; replace c8 := eq_true c8; replace c9 := eq_true c9; obtain ⟨q, hq⟩ : ∃ q, q = rd [82, 65, 66, 78] bp := ⟨_, rfl⟩; rw [← hq] at hby A11 A12 H; clear hq
       cases hh with
       | true =>
         by_cases c14 : q = 78
         · have c14b : (q == 78) = true := beq_iff_eq.mpr c14
           rw [if_pos rfl, if_pos c14] at H; clear c14
           cases x4 with
           | true =>
             rw [if_pos rfl] at H; replace H := Option.bind_eq_some_iff.mp H; obtain ⟨t2, A160, H⟩ := H; have A16 := Aside0.mk A160; have H' := Aside0.mk H; clear A160 H
             go_wp2_with (first | (go_at_call 39; (with_reducible refine (impl_partOf.calls a0_0 a0_1 a0_2 a0_3 a0_4 q t _ A11.out).mono ?_); rintro e wA ⟨rfl, hb⟩; replace BY := nblk BY hb; replace BK := nblk BK hb; replace HB := nbs HB hb; clear hb hcz_0 hcz_1 hcz_2 hcz_3 hcz_4; obtain ⟨hcz_0, hcz_1, hcz_2, hcz_3, hcz_4⟩ := c5e BK) | (go_at_call 35; (with_reducible refine (impl_hasPart.calls k1 a0_0 a0_1 a0_2 a0_3 a0_4 q true _ A12.out).mono ?_); rintro e wB ⟨rfl, hb⟩; replace BY := nblk BY hb; replace BK := nblk BK hb; replace HB := nbs HB hb; clear hb) | (go_at_call 40; (with_reducible refine (impl_in.calls t (-128) 127 t2 _ A16.out).mono ?_); rintro e wC ⟨rfl, ⟨nd, rfl⟩⟩))
             go_roundg k1
             case measure => have := HK.out; omega
             case rel => exact ⟨_, _, rfl, rfl, H', ⟨by have := HK.out; omega⟩, ⟨nb BY⟩, ⟨nb BK⟩, ⟨nbe HB⟩⟩
           | false =>
             rw [if_neg (by simp)] at H; have H' := Aside0.mk H; clear H
             go_wp2_with (first | (go_at_call 39; (with_reducible refine (impl_partOf.calls a0_0 a0_1 a0_2 a0_3 a0_4 q t _ A11.out).mono ?_); rintro e wA ⟨rfl, hb⟩; replace BY := nblk BY hb; replace BK := nblk BK hb; replace HB := nbs HB hb; clear hb hcz_0 hcz_1 hcz_2 hcz_3 hcz_4; obtain ⟨hcz_0, hcz_1, hcz_2, hcz_3, hcz_4⟩ := c5e BK) | (go_at_call 35; (with_reducible refine (impl_hasPart.calls k1 a0_0 a0_1 a0_2 a0_3 a0_4 q true _ A12.out).mono ?_); rintro e wB ⟨rfl, hb⟩; replace BY := nblk BY hb; replace BK := nblk BK hb; replace HB := nbs HB hb; clear hb))
             go_roundg k1
             case measure => have := HK.out; omega
             case rel => exact ⟨_, _, rfl, rfl, H', ⟨by have := HK.out; omega⟩, ⟨nb BY⟩, ⟨nb BK⟩, ⟨nbe HB⟩⟩
         · have c14b : (q == 78) = false := beq_eq_false_iff_ne.mpr c14
           rw [if_pos rfl, if_neg c14] at H; clear c14
           cases x4 with
           | true =>
             rw [if_pos rfl] at H; replace H := Option.bind_eq_some_iff.mp H; obtain ⟨t2, A160, H⟩ := H; have A16 := Aside0.mk A160; have H' := Aside0.mk H; clear A160 H
             go_wp2_with (first | (go_at_call 39; (with_reducible refine (impl_partOf.calls a0_0 a0_1 a0_2 a0_3 a0_4 q t _ A11.out).mono ?_); rintro e wA ⟨rfl, hb⟩; replace BY := nblk BY hb; replace BK := nblk BK hb; replace HB := nbs HB hb; clear hb hcz_0 hcz_1 hcz_2 hcz_3 hcz_4; obtain ⟨hcz_0, hcz_1, hcz_2, hcz_3, hcz_4⟩ := c5e BK) | (go_at_call 35; (with_reducible refine (impl_hasPart.calls k1 a0_0 a0_1 a0_2 a0_3 a0_4 q true _ A12.out).mono ?_); rintro e wB ⟨rfl, hb⟩; replace BY := nblk BY hb; replace BK := nblk BK hb; replace HB := nbs HB hb; clear hb) | (go_at_call 40; (with_reducible refine (impl_in.calls t 0 7 t2 _ A16.out).mono ?_); rintro e wC ⟨rfl, ⟨nd, rfl⟩⟩))
             go_roundg k1
             case measure => have := HK.out; omega
             case rel => exact ⟨_, _, rfl, rfl, H', ⟨by have := HK.out; omega⟩, ⟨nb BY⟩, ⟨nb BK⟩, ⟨nbe HB⟩⟩
           | false =>
             rw [if_neg (by simp)] at H; have H' := Aside0.mk H; clear H
             go_wp2_with (first | (go_at_call 39; (with_reducible refine (impl_partOf.calls a0_0 a0_1 a0_2 a0_3 a0_4 q t _ A11.out).mono ?_); rintro e wA ⟨rfl, hb⟩; replace BY := nblk BY hb; replace BK := nblk BK hb; replace HB := nbs HB hb; clear hb hcz_0 hcz_1 hcz_2 hcz_3 hcz_4; obtain ⟨hcz_0, hcz_1, hcz_2, hcz_3, hcz_4⟩ := c5e BK) | (go_at_call 35; (with_reducible refine (impl_hasPart.calls k1 a0_0 a0_1 a0_2 a0_3 a0_4 q true _ A12.out).mono ?_); rintro e wB ⟨rfl, hb⟩; replace BY := nblk BY hb; replace BK := nblk BK hb; replace HB := nbs HB hb; clear hb))
             go_roundg k1
             case measure => have := HK.out; omega
             case rel => exact ⟨_, _, rfl, rfl, H', ⟨by have := HK.out; omega⟩, ⟨nb BY⟩, ⟨nb BK⟩, ⟨nbe HB⟩⟩
       | false =>
         rw [if_neg (by simp)] at H
         cases x4 with
         | true =>
           rw [if_pos rfl] at H; have H' := Aside0.mk H; clear H
           go_wp2_with (first | (go_at_call 39; (with_reducible refine (impl_partOf.calls a0_0 a0_1 a0_2 a0_3 a0_4 q t _ A11.out).mono ?_); rintro e wA ⟨rfl, hb⟩; replace BY := nblk BY hb; replace BK := nblk BK hb; replace HB := nbs HB hb; clear hb hcz_0 hcz_1 hcz_2 hcz_3 hcz_4; obtain ⟨hcz_0, hcz_1, hcz_2, hcz_3, hcz_4⟩ := c5e BK) | (go_at_call 35; (with_reducible refine (impl_hasPart.calls k1 a0_0 a0_1 a0_2 a0_3 a0_4 q false _ A12.out).mono ?_); rintro e wB ⟨rfl, hb⟩; replace BY := nblk BY hb; replace BK := nblk BK hb; replace HB := nbs HB hb; clear hb))
           go_roundg k1
           case measure => have := HK.out; omega
           case rel => exact ⟨_, _, rfl, rfl, H', ⟨by have := HK.out; omega⟩, ⟨nb BY⟩, ⟨nb BK⟩, ⟨nbe HB⟩⟩
         | false =>
           rw [if_neg (by simp)] at H; have H' := Aside0.mk H; clear H
           go_wp2_with (first | (go_at_call 39; (with_reducible refine (impl_partOf.calls a0_0 a0_1 a0_2 a0_3 a0_4 q t _ A11.out).mono ?_); rintro e wA ⟨rfl, hb⟩; replace BY := nblk BY hb; replace BK := nblk BK hb; replace HB := nbs HB hb; clear hb hcz_0 hcz_1 hcz_2 hcz_3 hcz_4; obtain ⟨hcz_0, hcz_1, hcz_2, hcz_3, hcz_4⟩ := c5e BK) | (go_at_call 35; (with_reducible refine (impl_hasPart.calls k1 a0_0 a0_1 a0_2 a0_3 a0_4 q false _ A12.out).mono ?_); rintro e wB ⟨rfl, hb⟩; replace BY := nblk BY hb; replace BK := nblk BK hb; replace HB := nbs HB hb; clear hb))
           go_roundg k1
           case measure => have := HK.out; omega
           case rel => exact ⟨_, _, rfl, rfl, H', ⟨by have := HK.out; omega⟩, ⟨nb BY⟩, ⟨nb BK⟩, ⟨nbe HB⟩⟩
     · rw [if_neg c9] at H
       exact absurd H (by simp)
   · rw [if_neg c8] at H
     obtain rfl : x4 = r := by simpa using H
     clear H; have c8b : decide (bp < (4 : Int)) = false := decide_eq_false c8; go_wp2
     go_ret
     exact ⟨rfl, HB.out⟩

/-! ### spec_Word32: function 15 -/
def spec_Word32.f (a0_0 : Int) (a0_1 : Int) (a0_2 : Int) (a0_3 : Int) (a0_4 : Int) : Option (Int × Bool) := (spec_InsOk.f a0_0 a0_1 a0_2 a0_3 a0_4).bind fun bE => (if bE = true then (some (wrap64 ((wrap64 ((wrap64 ((wrap64 (a0_0 + (wrap64 (16 * a0_1)))) + (wrap64 (128 * a0_2)))) + (wrap64 (1024 * a0_3)))) + (wrap64 (8192 * (wrap64 (a0_4 + 128))))), true)) else (some (0, false)))
set_option maxHeartbeats 8000000 in
set_option maxRecDepth 100000 in
theorem spec_Word32.calls (a0_0 : Int) (a0_1 : Int) (a0_2 : Int) (a0_3 : Int) (a0_4 : Int) (r1 : Int) (r2 : Bool) (w : World) (h : spec_Word32.f a0_0 a0_1 a0_2 a0_3 a0_4 = some (r1, r2)) :
    Calls Try.prog 15 #[.agg #[.int .i64 a0_0, .int .i64 a0_1, .int .i64 a0_2, .int .i64 a0_3, .int .i64 a0_4]] w fun e w' => e = .returned (.tuple #[.int .i64 r1, .bool r2]) ∧ Below w.heap.size w w' := by
  have hu25 := Try.underlying25; have HB := Aside0.mk (Below.refl w.heap.size w); have H : ((spec_InsOk.f a0_0 a0_1 a0_2 a0_3 a0_4).bind fun bE => (if bE = true then (some (wrap64 ((wrap64 ((wrap64 ((wrap64 (a0_0 + (wrap64 (16 * a0_1)))) + (wrap64 (128 * a0_2)))) + (wrap64 (1024 * a0_3)))) + (wrap64 (8192 * (wrap64 (a0_4 + 128))))), true)) else (some (0, false)))) = some (r1, r2) := h; clear h; replace H := Option.bind_eq_some_iff.mp H; obtain ⟨bE, A20, H⟩ := H; replace H : (if bE = true then (some (wrap64 ((wrap64 ((wrap64 ((wrap64 (a0_0 + (wrap64 (16 * a0_1)))) + (wrap64 (128 * a0_2)))) + (wrap64 (1024 * a0_3)))) + (wrap64 (8192 * (wrap64 (a0_4 + 128))))), true)) else (some (0, false))) = some (r1, r2) := H; have A2 := Aside0.mk A20; clear A20
  by_cases c3 : bE = true
  · subst c3
    have H1 : (some (wrap64 ((wrap64 ((wrap64 ((wrap64 (a0_0 + (wrap64 (16 * a0_1)))) + (wrap64 (128 * a0_2)))) + (wrap64 (1024 * a0_3)))) + (wrap64 (8192 * (wrap64 (a0_4 + 128))))), true)) = some (r1, r2) := by rw [if_pos rfl] at H; exact H
    clear H; have H := H1; clear H1; simp only [Option.some.injEq, Prod.mk.injEq] at H; obtain ⟨rfl, rfl⟩ := H
    go_enter Try.func15, Try.ntmps15
    go_wp2_with (first | ((with_reducible refine gate_dst (N := 1) rfl ?_); refine bxe 1 #[.int .i64 a0_0, .int .i64 a0_1, .int .i64 a0_2, .int .i64 a0_3, .int .i64 a0_4] 25 ?_; intro ey hg w4 hbox hb; have bn := hbox; have ez := nge HB hg; have eA := nge HB hg; replace HB := nbs HB hb; clear hb hbox hg; obtain ⟨b1, b2, b3, b4, b5⟩ := c5e bn; obtain ⟨b6, b7, b8, b9, da⟩ := z5_ bn) | ((with_reducible refine gate_callee (f := 13) rfl ?_); refine goesM (some 5) rfl rfl Try.func13 (by kernel_rfl) rfl #[.agg #[.int .i64 a0_0, .int .i64 a0_1, .int .i64 a0_2, .int .i64 a0_3, .int .i64 a0_4]] rfl ?_; (with_reducible refine (spec_InsOk.calls a0_0 a0_1 a0_2 a0_3 a0_4 true _ A2.out).mono ?_); rintro e w6 ⟨rfl, hb⟩; refine ⟨_, rfl, ?_⟩; replace bn := nblk bn hb; replace HB := nbs HB hb; (try clear hb); obtain ⟨eB, eC, eD, eE, eF⟩ := c5e bn; obtain ⟨eG, eH, eI, eJ, eK⟩ := z5_ bn))
    go_ret2
    exact ⟨er_, nbe HB⟩
  · replace c3 := Bool.eq_false_iff.mpr c3
    subst c3; have H1 : (some (0, false)) = some (r1, r2) := by rw [if_neg (show ¬ (false = true) by decide)] at H; exact H
    clear H; have H := H1; clear H1; simp only [Option.some.injEq, Prod.mk.injEq] at H; obtain ⟨rfl, rfl⟩ := H
    go_enter Try.func15, Try.ntmps15
    go_wp2_with (first | ((with_reducible refine gate_dst (N := 1) rfl ?_); refine bxe 1 #[.int .i64 a0_0, .int .i64 a0_1, .int .i64 a0_2, .int .i64 a0_3, .int .i64 a0_4] 25 ?_; intro ey hg w8 hbox hb; have bn := hbox; have ez := nge HB hg; have eA := nge HB hg; replace HB := nbs HB hb; clear hb hbox hg; obtain ⟨eL, eM, eN, eO, eP⟩ := c5e bn; obtain ⟨eQ, eR, eS, eT, eU⟩ := z5_ bn) | ((with_reducible refine gate_callee (f := 13) rfl ?_); refine goesM (some 5) rfl rfl Try.func13 (by kernel_rfl) rfl #[.agg #[.int .i64 a0_0, .int .i64 a0_1, .int .i64 a0_2, .int .i64 a0_3, .int .i64 a0_4]] rfl ?_; (with_reducible refine (spec_InsOk.calls a0_0 a0_1 a0_2 a0_3 a0_4 false _ A2.out).mono ?_); rintro e db ⟨rfl, hb⟩; refine ⟨_, rfl, ?_⟩; replace bn := nblk bn hb; replace HB := nbs HB hb; (try clear hb)))
    go_ret2
    exact ⟨er_, nbe HB⟩

/-! ### impl_Word32: function 16 -/
def impl_Word32.f (k : Nat) (a0_0 : Int) (a0_1 : Int) (a0_2 : Int) (a0_3 : Int) (a0_4 : Int) : Option (Int × Bool) := (impl_InsOk.f k a0_0 a0_1 a0_2 a0_3 a0_4).bind fun bF => (if bF = true then (some (wrap64 ((wrap64 ((wrap64 ((wrap64 (a0_0 + (wrap64 (16 * a0_1)))) + (wrap64 (128 * a0_2)))) + (wrap64 (1024 * a0_3)))) + (wrap64 (8192 * (wrap64 (a0_4 + 128))))), true)) else (some (0, false)))
theorem impl_Word32.mono : ∀ a0 a1 a2 a3 a4 k, LeO (impl_Word32.f k a0 a1 a2 a3 a4) (impl_Word32.f (k + 1) a0 a1 a2 a3 a4) := by
  intro a0 a1 a2 a3 a4 k
  unfold impl_Word32.f
  repeat' first
      | (with_reducible exact impl_InsOk.mono _ _ _ _ _ _)
      | (with_reducible exact LeO.refl _)
      | (with_reducible exact LeO.none _)
      | (with_reducible refine LeO.ite ?_ ?_)
      | (with_reducible refine LeO.bind ?_ (fun _ => ?_))
      | exact impl_InsOk.mono _ _ _ _ _ _
      | exact LeO.none _
      | refine LeO.ite ?_ ?_
      | refine LeO.bind ?_ (fun _ => ?_)
set_option maxHeartbeats 8000000 in
set_option maxRecDepth 100000 in
theorem impl_Word32.calls (k : Nat) (a0_0 : Int) (a0_1 : Int) (a0_2 : Int) (a0_3 : Int) (a0_4 : Int) (r1 : Int) (r2 : Bool) (w : World) (h : impl_Word32.f k a0_0 a0_1 a0_2 a0_3 a0_4 = some (r1, r2)) :
    Calls Try.prog 16 #[.agg #[.int .i64 a0_0, .int .i64 a0_1, .int .i64 a0_2, .int .i64 a0_3, .int .i64 a0_4]] w fun e w' => e = .returned (.tuple #[.int .i64 r1, .bool r2]) ∧ Below w.heap.size w w' := by
  have hu25 := Try.underlying25; have HB := Aside0.mk (Below.refl w.heap.size w); have H : ((impl_InsOk.f k a0_0 a0_1 a0_2 a0_3 a0_4).bind fun bF => (if bF = true then (some (wrap64 ((wrap64 ((wrap64 ((wrap64 (a0_0 + (wrap64 (16 * a0_1)))) + (wrap64 (128 * a0_2)))) + (wrap64 (1024 * a0_3)))) + (wrap64 (8192 * (wrap64 (a0_4 + 128))))), true)) else (some (0, false)))) = some (r1, r2) := h; clear h; replace H := Option.bind_eq_some_iff.mp H; obtain ⟨bF, A20, H⟩ := H; replace H : (if bF = true then (some (wrap64 ((wrap64 ((wrap64 ((wrap64 (a0_0 + (wrap64 (16 * a0_1)))) + (wrap64 (128 * a0_2)))) + (wrap64 (1024 * a0_3)))) + (wrap64 (8192 * (wrap64 (a0_4 + 128))))), true)) else (some (0, false))) = some (r1, r2) := H; have A2 := Aside0.mk A20; clear A20
  by_cases c3 : bF = true
  · subst c3
    have H1 : (some (wrap64 ((wrap64 ((wrap64 ((wrap64 (a0_0 + (wrap64 (16 * a0_1)))) + (wrap64 (128 * a0_2)))) + (wrap64 (1024 * a0_3)))) + (wrap64 (8192 * (wrap64 (a0_4 + 128))))), true)) = some (r1, r2) := by rw [if_pos rfl] at H; exact H
    clear H; have H := H1; clear H1; simp only [Option.some.injEq, Prod.mk.injEq] at H; obtain ⟨rfl, rfl⟩ := H
    go_enter Try.func16, Try.ntmps16
    go_wp2_with (first | ((with_reducible refine gate_dst (N := 1) rfl ?_); refine bxe 1 #[.int .i64 a0_0, .int .i64 a0_1, .int .i64 a0_2, .int .i64 a0_3, .int .i64 a0_4] 25 ?_; intro eV hg w4 hbox hb; have bo := hbox; have eW := nge HB hg; have eX := nge HB hg; replace HB := nbs HB hb; clear hb hbox hg; obtain ⟨b1, b2, b3, b4, b5⟩ := c5e bo; obtain ⟨b6, b7, b8, b9, da⟩ := z5_ bo) | ((with_reducible refine gate_callee (f := 14) rfl ?_); refine goesM (some 5) rfl rfl Try.func14 (by kernel_rfl) rfl #[.agg #[.int .i64 a0_0, .int .i64 a0_1, .int .i64 a0_2, .int .i64 a0_3, .int .i64 a0_4]] rfl ?_; (with_reducible refine (impl_InsOk.calls k a0_0 a0_1 a0_2 a0_3 a0_4 true _ A2.out).mono ?_); rintro e w6 ⟨rfl, hb⟩; refine ⟨_, rfl, ?_⟩; replace bo := nblk bo hb; replace HB := nbs HB hb; (try clear hb); obtain ⟨eB, eC, eD, eE, eF⟩ := c5e bo; obtain ⟨eG, eH, eI, eJ, eK⟩ := z5_ bo))
    go_ret2
    exact ⟨er_, nbe HB⟩
  · replace c3 := Bool.eq_false_iff.mpr c3
    subst c3; have H1 : (some (0, false)) = some (r1, r2) := by rw [if_neg (show ¬ (false = true) by decide)] at H; exact H
    clear H; have H := H1; clear H1; simp only [Option.some.injEq, Prod.mk.injEq] at H; obtain ⟨rfl, rfl⟩ := H
    go_enter Try.func16, Try.ntmps16
    go_wp2_with (first | ((with_reducible refine gate_dst (N := 1) rfl ?_); refine bxe 1 #[.int .i64 a0_0, .int .i64 a0_1, .int .i64 a0_2, .int .i64 a0_3, .int .i64 a0_4] 25 ?_; intro eV hg w8 hbox hb; have bo := hbox; have eW := nge HB hg; have eX := nge HB hg; replace HB := nbs HB hb; clear hb hbox hg; obtain ⟨eL, eM, eN, eO, eP⟩ := c5e bo; obtain ⟨eQ, eR, eS, eT, eU⟩ := z5_ bo) | ((with_reducible refine gate_callee (f := 14) rfl ?_); refine goesM (some 5) rfl rfl Try.func14 (by kernel_rfl) rfl #[.agg #[.int .i64 a0_0, .int .i64 a0_1, .int .i64 a0_2, .int .i64 a0_3, .int .i64 a0_4]] rfl ?_; (with_reducible refine (impl_InsOk.calls k a0_0 a0_1 a0_2 a0_3 a0_4 false _ A2.out).mono ?_); rintro e db ⟨rfl, hb⟩; refine ⟨_, rfl, ?_⟩; replace bo := nblk bo hb; replace HB := nbs HB hb; (try clear hb)))
    go_ret2
    exact ⟨er_, nbe HB⟩

/-! ### spec_InsOf: function 17 -/
def spec_InsOf.f (a0 : Int) : Option (Int × Int × Int × Int × Int × Bool) := if a0 < 0 then (some (0, 0, 0, 0, 0, false)) else ((spec_Word32.f (Int.tmod a0 16) (Int.tmod (wrap64 (Int.tdiv a0 16)) 8) (Int.tmod (wrap64 (Int.tdiv a0 128)) 8) (Int.tmod (wrap64 (Int.tdiv a0 1024)) 8) (wrap64 ((wrap64 (Int.tdiv a0 8192)) - 128))).bind fun bI => (if bI.2 = true then (if bI.1 = a0 then (some (Int.tmod a0 16, Int.tmod (wrap64 (Int.tdiv a0 16)) 8, Int.tmod (wrap64 (Int.tdiv a0 128)) 8, Int.tmod (wrap64 (Int.tdiv a0 1024)) 8, wrap64 ((wrap64 (Int.tdiv a0 8192)) - 128), true)) else (some (0, 0, 0, 0, 0, false))) else (some (0, 0, 0, 0, 0, false))))
set_option maxHeartbeats 8000000 in
set_option maxRecDepth 100000 in
theorem spec_InsOf.calls (a0 : Int) (r1 : Int) (r2 : Int) (r3 : Int) (r4 : Int) (r5 : Int) (r6 : Bool) (w : World) (h : spec_InsOf.f a0 = some (r1, r2, r3, r4, r5, r6)) :
    Calls Try.prog 17 #[.int .i64 a0] w fun e w' => e = .returned (.tuple #[.agg #[.int .i64 r1, .int .i64 r2, .int .i64 r3, .int .i64 r4, .int .i64 r5], .bool r6]) ∧ Below w.heap.size w w' := by
  have hu25 := Try.underlying25; have HB := Aside0.mk (Below.refl w.heap.size w); have H : (if a0 < 0 then (some (0, 0, 0, 0, 0, false)) else ((spec_Word32.f (Int.tmod a0 16) (Int.tmod (wrap64 (Int.tdiv a0 16)) 8) (Int.tmod (wrap64 (Int.tdiv a0 128)) 8) (Int.tmod (wrap64 (Int.tdiv a0 1024)) 8) (wrap64 ((wrap64 (Int.tdiv a0 8192)) - 128))).bind fun bI => (if bI.2 = true then (if bI.1 = a0 then (some (Int.tmod a0 16, Int.tmod (wrap64 (Int.tdiv a0 16)) 8, Int.tmod (wrap64 (Int.tdiv a0 128)) 8, Int.tmod (wrap64 (Int.tdiv a0 1024)) 8, wrap64 ((wrap64 (Int.tdiv a0 8192)) - 128), true)) else (some (0, 0, 0, 0, 0, false))) else (some (0, 0, 0, 0, 0, false))))) = some (r1, r2, r3, r4, r5, r6) := h; clear h
  by_cases c2 : a0 < 0
  · rw [if_pos c2] at H
    have c2b0 : decide (a0 < 0) = true := decide_eq_true c2; clear c2; simp only [Option.some.injEq, Prod.mk.injEq] at H; obtain ⟨rfl, rfl, rfl, rfl, rfl, rfl⟩ := H
    go_enter Try.func17, Try.ntmps17
    go_wp2_with (first | ((with_reducible refine gate_dst (N := 2) rfl ?_); refine bxe 2 #[.int .i64 0, .int .i64 0, .int .i64 0, .int .i64 0, .int .i64 0] 25 ?_; intro bu hg w3 hbox hb; have bd := hbox; have bX := nge HB hg; have bY := nge HB hg; replace HB := nbs HB hb; clear hb hbox hg; obtain ⟨eY, eZ, e0, e2, e3⟩ := c5e bd; obtain ⟨e4, e5, e6, e7, e8⟩ := z5_ bd))
    refine bodyPost_ret (results_ct rfl _ _ bu 25 #[.int .i64 0, .int .i64 0, .int .i64 0, .int .i64 0, .int .i64 0] (0, 0) _ rfl (q5 bd) Try.underlying25 rfl (by kernel_rfl)) rfl ?_; exact ⟨er_, nbe HB⟩
  · rw [if_neg c2] at H
    have c2b0 : decide (a0 < 0) = false := decide_eq_false c2; clear c2; replace H := Option.bind_eq_some_iff.mp H; obtain ⟨⟨bq, dn⟩, A50, H⟩ := H; replace H : (if dn = true then (if bq = a0 then (some (Int.tmod a0 16, Int.tmod (wrap64 (Int.tdiv a0 16)) 8, Int.tmod (wrap64 (Int.tdiv a0 128)) 8, Int.tmod (wrap64 (Int.tdiv a0 1024)) 8, wrap64 ((wrap64 (Int.tdiv a0 8192)) - 128), true)) else (some (0, 0, 0, 0, 0, false))) else (some (0, 0, 0, 0, 0, false))) = some (r1, r2, r3, r4, r5, r6) := H; have A5 := Aside0.mk A50; clear A50
    by_cases c6 : dn = true
    · subst c6
      have H1 : (if bq = a0 then (some (Int.tmod a0 16, Int.tmod (wrap64 (Int.tdiv a0 16)) 8, Int.tmod (wrap64 (Int.tdiv a0 128)) 8, Int.tmod (wrap64 (Int.tdiv a0 1024)) 8, wrap64 ((wrap64 (Int.tdiv a0 8192)) - 128), true)) else (some (0, 0, 0, 0, 0, false))) = some (r1, r2, r3, r4, r5, r6) := by rw [if_pos rfl] at H; exact H
      clear H; have H := H1; clear H1
      by_cases c7 : bq = a0
      · rw [if_pos c7] at H
        have c7b0 : (bq == a0) = true := beq_iff_eq.mpr c7; have c7b1 : (bq != a0) = false := bne_eq_false_iff_eq.mpr c7; clear c7; simp only [Option.some.injEq, Prod.mk.injEq] at H; obtain ⟨rfl, rfl, rfl, rfl, rfl, rfl⟩ := H
        go_enter Try.func17, Try.ntmps17
        go_wp2_with (first | ((with_reducible refine gate_dst (N := 2) rfl ?_); refine bxe 2 #[.int .i64 0, .int .i64 0, .int .i64 0, .int .i64 0, .int .i64 0] 25 ?_; intro bu hg w8 hbox hb; have bd := hbox; have bX := nge HB hg; have bY := nge HB hg; replace HB := nbs HB hb; clear hb hbox hg) | ((with_reducible refine gate_dst (N := 4) rfl ?_); refine bxe 4 #[.int .i64 0, .int .i64 0, .int .i64 0, .int .i64 0, .int .i64 0] 25 ?_; intro bJ hg w9 hbox hb; have bj := hbox; have dp := nge HB hg; have dq := nge HB hg; have bK := nlt bd hg; have bL := ngt bd hg; replace bd := nblk bd hb; replace HB := nbs HB hb; clear hb hbox hg; have ih := bL.out; have ii := bK.out; obtain ⟨dc, dd, de, df, dg⟩ := c5e bj; obtain ⟨dh, di, dj, dk, dl⟩ := z5_ bj) | ((with_reducible refine gate_callee (f := 15) rfl ?_); refine goesM (some 27) rfl rfl Try.func15 (by kernel_rfl) rfl #[.agg #[.int .i64 (Int.tmod a0 16), .int .i64 (Int.tmod (wrap64 (Int.tdiv a0 16)) 8), .int .i64 (Int.tmod (wrap64 (Int.tdiv a0 128)) 8), .int .i64 (Int.tmod (wrap64 (Int.tdiv a0 1024)) 8), .int .i64 (wrap64 ((wrap64 (Int.tdiv a0 8192)) - 128))]] rfl ?_; (with_reducible refine (spec_Word32.calls (Int.tmod a0 16) (Int.tmod (wrap64 (Int.tdiv a0 16)) 8) (Int.tmod (wrap64 (Int.tdiv a0 128)) 8) (Int.tmod (wrap64 (Int.tdiv a0 1024)) 8) (wrap64 ((wrap64 (Int.tdiv a0 8192)) - 128)) bq true _ A5.out).mono ?_); rintro e dm ⟨rfl, hb⟩; refine ⟨_, rfl, ?_⟩; replace bd := nblk bd hb; replace bj := Aside0.mk (blk_below (g := bJ) (o := .cells #[.int .i64 (Int.tmod a0 16), .int .i64 (Int.tmod (wrap64 (Int.tdiv a0 16)) 8), .int .i64 (Int.tmod (wrap64 (Int.tdiv a0 128)) 8), .int .i64 (Int.tmod (wrap64 (Int.tdiv a0 1024)) 8), .int .i64 (wrap64 ((wrap64 (Int.tdiv a0 8192)) - 128))] 25 (0, 0)) (q5 bj) hb); replace HB := nbs HB hb; (try clear hb); obtain ⟨em, en, eo, ep, er⟩ := c5e bj; obtain ⟨es, et, eu, ev, ew⟩ := z5_ bj; obtain ⟨ij, ik, il, im, io⟩ := c5e bd; obtain ⟨ip, iq, ir, iu, iv⟩ := z5_ bd))
        refine bodyPost_ret (results_ct rfl _ _ bu 25 #[.int .i64 (Int.tmod a0 16), .int .i64 (Int.tmod (wrap64 (Int.tdiv a0 16)) 8), .int .i64 (Int.tmod (wrap64 (Int.tdiv a0 128)) 8), .int .i64 (Int.tmod (wrap64 (Int.tdiv a0 1024)) 8), .int .i64 (wrap64 ((wrap64 (Int.tdiv a0 8192)) - 128))] (0, 0) _ rfl (q5 bd) Try.underlying25 rfl (by kernel_rfl)) rfl ?_; exact ⟨er_, nbe HB⟩
      · rw [if_neg c7] at H
        have c7b0 : (bq == a0) = false := beq_eq_false_iff_ne.mpr c7; have c7b1 : (bq != a0) = true := bne_iff_ne.mpr c7; simp only [Option.some.injEq, Prod.mk.injEq] at H; obtain ⟨rfl, rfl, rfl, rfl, rfl, rfl⟩ := H
        go_enter Try.func17, Try.ntmps17
        go_wp2_with (first | ((with_reducible refine gate_dst (N := 2) rfl ?_); refine bxe 2 #[.int .i64 0, .int .i64 0, .int .i64 0, .int .i64 0, .int .i64 0] 25 ?_; intro bu hg iw hbox hb; have bd := hbox; have bX := nge HB hg; have bY := nge HB hg; replace HB := nbs HB hb; clear hb hbox hg) | ((with_reducible refine gate_dst (N := 4) rfl ?_); refine bxe 4 #[.int .i64 0, .int .i64 0, .int .i64 0, .int .i64 0, .int .i64 0] 25 ?_; intro bJ hg bZ hbox hb; have bj := hbox; have dp := nge HB hg; have dq := nge HB hg; have bK := nlt bd hg; have bL := ngt bd hg; replace bd := nblk bd hb; replace HB := nbs HB hb; clear hb hbox hg; have ix := bL.out; have iy := bK.out; obtain ⟨iz, iA, iB, iC, iD⟩ := c5e bj; obtain ⟨iE, iF, iG, iH, iI⟩ := z5_ bj) | ((with_reducible refine gate_callee (f := 15) rfl ?_); refine goesM (some 27) rfl rfl Try.func15 (by kernel_rfl) rfl #[.agg #[.int .i64 (Int.tmod a0 16), .int .i64 (Int.tmod (wrap64 (Int.tdiv a0 16)) 8), .int .i64 (Int.tmod (wrap64 (Int.tdiv a0 128)) 8), .int .i64 (Int.tmod (wrap64 (Int.tdiv a0 1024)) 8), .int .i64 (wrap64 ((wrap64 (Int.tdiv a0 8192)) - 128))]] rfl ?_; (with_reducible refine (spec_Word32.calls (Int.tmod a0 16) (Int.tmod (wrap64 (Int.tdiv a0 16)) 8) (Int.tmod (wrap64 (Int.tdiv a0 128)) 8) (Int.tmod (wrap64 (Int.tdiv a0 1024)) 8) (wrap64 ((wrap64 (Int.tdiv a0 8192)) - 128)) bq true _ A5.out).mono ?_); rintro e e9 ⟨rfl, hb⟩; refine ⟨_, rfl, ?_⟩; replace bd := nblk bd hb; replace bj := Aside0.mk (blk_below (g := bJ) (o := .cells #[.int .i64 (Int.tmod a0 16), .int .i64 (Int.tmod (wrap64 (Int.tdiv a0 16)) 8), .int .i64 (Int.tmod (wrap64 (Int.tdiv a0 128)) 8), .int .i64 (Int.tmod (wrap64 (Int.tdiv a0 1024)) 8), .int .i64 (wrap64 ((wrap64 (Int.tdiv a0 8192)) - 128))] 25 (0, 0)) (q5 bj) hb); replace HB := nbs HB hb; (try clear hb); obtain ⟨iJ, iK, iL, iM, iN⟩ := c5e bd; obtain ⟨iO, iP, iQ, iR, iS⟩ := z5_ bd))
        refine bodyPost_ret (results_ct rfl _ _ bu 25 #[.int .i64 0, .int .i64 0, .int .i64 0, .int .i64 0, .int .i64 0] (0, 0) _ rfl (q5 bd) Try.underlying25 rfl (by kernel_rfl)) rfl ?_; exact ⟨er_, nbe HB⟩
    · replace c6 := Bool.eq_false_iff.mpr c6
      subst c6; have H1 : (some (0, 0, 0, 0, 0, false)) = some (r1, r2, r3, r4, r5, r6) := by rw [if_neg (show ¬ (false = true) by decide)] at H; exact H
      clear H; have H := H1; clear H1; simp only [Option.some.injEq, Prod.mk.injEq] at H; obtain ⟨rfl, rfl, rfl, rfl, rfl, rfl⟩ := H
      go_enter Try.func17, Try.ntmps17
      go_wp2_with (first | ((with_reducible refine gate_dst (N := 2) rfl ?_); refine bxe 2 #[.int .i64 0, .int .i64 0, .int .i64 0, .int .i64 0, .int .i64 0] 25 ?_; intro bu hg iT hbox hb; have bd := hbox; have bX := nge HB hg; have bY := nge HB hg; replace HB := nbs HB hb; clear hb hbox hg) | ((with_reducible refine gate_dst (N := 4) rfl ?_); refine bxe 4 #[.int .i64 0, .int .i64 0, .int .i64 0, .int .i64 0, .int .i64 0] 25 ?_; intro bJ hg b0 hbox hb; have bj := hbox; have dp := nge HB hg; have dq := nge HB hg; have bK := nlt bd hg; have bL := ngt bd hg; replace bd := nblk bd hb; replace HB := nbs HB hb; clear hb hbox hg; have iU := bL.out; have iV := bK.out; obtain ⟨iW, iX, iY, iZ, i0⟩ := c5e bj; obtain ⟨i1, i2, i3, i4, i5⟩ := z5_ bj) | ((with_reducible refine gate_callee (f := 15) rfl ?_); refine goesM (some 27) rfl rfl Try.func15 (by kernel_rfl) rfl #[.agg #[.int .i64 (Int.tmod a0 16), .int .i64 (Int.tmod (wrap64 (Int.tdiv a0 16)) 8), .int .i64 (Int.tmod (wrap64 (Int.tdiv a0 128)) 8), .int .i64 (Int.tmod (wrap64 (Int.tdiv a0 1024)) 8), .int .i64 (wrap64 ((wrap64 (Int.tdiv a0 8192)) - 128))]] rfl ?_; (with_reducible refine (spec_Word32.calls (Int.tmod a0 16) (Int.tmod (wrap64 (Int.tdiv a0 16)) 8) (Int.tmod (wrap64 (Int.tdiv a0 128)) 8) (Int.tmod (wrap64 (Int.tdiv a0 1024)) 8) (wrap64 ((wrap64 (Int.tdiv a0 8192)) - 128)) bq false _ A5.out).mono ?_); rintro e i6 ⟨rfl, hb⟩; refine ⟨_, rfl, ?_⟩; replace bd := nblk bd hb; replace bj := Aside0.mk (blk_below (g := bJ) (o := .cells #[.int .i64 (Int.tmod a0 16), .int .i64 (Int.tmod (wrap64 (Int.tdiv a0 16)) 8), .int .i64 (Int.tmod (wrap64 (Int.tdiv a0 128)) 8), .int .i64 (Int.tmod (wrap64 (Int.tdiv a0 1024)) 8), .int .i64 (wrap64 ((wrap64 (Int.tdiv a0 8192)) - 128))] 25 (0, 0)) (q5 bj) hb); replace HB := nbs HB hb; (try clear hb); obtain ⟨i7, i8, i9, ja, jb⟩ := c5e bd; obtain ⟨jc, jd, je, jf, jg⟩ := z5_ bd))
      refine bodyPost_ret (results_ct rfl _ _ bu 25 #[.int .i64 0, .int .i64 0, .int .i64 0, .int .i64 0, .int .i64 0] (0, 0) _ rfl (q5 bd) Try.underlying25 rfl (by kernel_rfl)) rfl ?_; exact ⟨er_, nbe HB⟩

/-! ### impl_InsOf: function 18 -/
def impl_InsOf.f (k : Nat) (a0 : Int) : Option (Int × Int × Int × Int × Int × Bool) := (impl_Word32.f k (Go.bits .and .i64 a0 15) (Go.bits .and .i64 (a0 / 16) 7) (Go.bits .and .i64 (a0 / 128) 7) (Go.bits .and .i64 (a0 / 1024) 7) (wrap64 ((a0 / 8192) - 128))).bind fun bM => (if bM.2 = true then (if bM.1 = a0 then (some (Go.bits .and .i64 a0 15, Go.bits .and .i64 (a0 / 16) 7, Go.bits .and .i64 (a0 / 128) 7, Go.bits .and .i64 (a0 / 1024) 7, wrap64 ((a0 / 8192) - 128), true)) else (some (0, 0, 0, 0, 0, false))) else (some (0, 0, 0, 0, 0, false)))
theorem impl_InsOf.mono : ∀ a0 k, LeO (impl_InsOf.f k a0) (impl_InsOf.f (k + 1) a0) := by
  intro a0 k
  unfold impl_InsOf.f
  repeat' first
      | (with_reducible exact impl_Word32.mono _ _ _ _ _ _)
      | (with_reducible exact LeO.refl _)
      | (with_reducible exact LeO.none _)
      | (with_reducible refine LeO.ite ?_ ?_)
      | (with_reducible refine LeO.bind ?_ (fun _ => ?_))
      | exact impl_Word32.mono _ _ _ _ _ _
      | exact LeO.none _
      | refine LeO.ite ?_ ?_
      | refine LeO.bind ?_ (fun _ => ?_)
set_option maxHeartbeats 8000000 in
set_option maxRecDepth 100000 in
theorem impl_InsOf.calls (k : Nat) (a0 : Int) (r1 : Int) (r2 : Int) (r3 : Int) (r4 : Int) (r5 : Int) (r6 : Bool) (w : World) (h : impl_InsOf.f k a0 = some (r1, r2, r3, r4, r5, r6)) :
    Calls Try.prog 18 #[.int .i64 a0] w fun e w' => e = .returned (.tuple #[.agg #[.int .i64 r1, .int .i64 r2, .int .i64 r3, .int .i64 r4, .int .i64 r5], .bool r6]) ∧ Below w.heap.size w w' := by
  have hu25 := Try.underlying25; have HB := Aside0.mk (Below.refl w.heap.size w); have H : ((impl_Word32.f k (Go.bits .and .i64 a0 15) (Go.bits .and .i64 (a0 / 16) 7) (Go.bits .and .i64 (a0 / 128) 7) (Go.bits .and .i64 (a0 / 1024) 7) (wrap64 ((a0 / 8192) - 128))).bind fun bM => (if bM.2 = true then (if bM.1 = a0 then (some (Go.bits .and .i64 a0 15, Go.bits .and .i64 (a0 / 16) 7, Go.bits .and .i64 (a0 / 128) 7, Go.bits .and .i64 (a0 / 1024) 7, wrap64 ((a0 / 8192) - 128), true)) else (some (0, 0, 0, 0, 0, false))) else (some (0, 0, 0, 0, 0, false)))) = some (r1, r2, r3, r4, r5, r6) := h; clear h; replace H := Option.bind_eq_some_iff.mp H; obtain ⟨⟨br, dr⟩, A20, H⟩ := H; replace H : (if dr = true then (if br = a0 then (some (Go.bits .and .i64 a0 15, Go.bits .and .i64 (a0 / 16) 7, Go.bits .and .i64 (a0 / 128) 7, Go.bits .and .i64 (a0 / 1024) 7, wrap64 ((a0 / 8192) - 128), true)) else (some (0, 0, 0, 0, 0, false))) else (some (0, 0, 0, 0, 0, false))) = some (r1, r2, r3, r4, r5, r6) := H; have A2 := Aside0.mk A20; clear A20
  by_cases c3 : dr = true
  · subst c3
    have H1 : (if br = a0 then (some (Go.bits .and .i64 a0 15, Go.bits .and .i64 (a0 / 16) 7, Go.bits .and .i64 (a0 / 128) 7, Go.bits .and .i64 (a0 / 1024) 7, wrap64 ((a0 / 8192) - 128), true)) else (some (0, 0, 0, 0, 0, false))) = some (r1, r2, r3, r4, r5, r6) := by rw [if_pos rfl] at H; exact H
    clear H; have H := H1; clear H1
    by_cases c4 : br = a0
    · rw [if_pos c4] at H
      have c4b0 : (br == a0) = true := beq_iff_eq.mpr c4; have c4b1 : (br != a0) = false := bne_eq_false_iff_eq.mpr c4; clear c4; simp only [Option.some.injEq, Prod.mk.injEq] at H; obtain ⟨rfl, rfl, rfl, rfl, rfl, rfl⟩ := H
      go_enter Try.func18, Try.ntmps18
      go_wp2_with (first | ((with_reducible refine gate_dst (N := 2) rfl ?_); refine bxe 2 #[.int .i64 0, .int .i64 0, .int .i64 0, .int .i64 0, .int .i64 0] 25 ?_; intro bN hg w5 hbox hb; have bf := hbox; have ds := nge HB hg; have dt := nge HB hg; replace HB := nbs HB hb; clear hb hbox hg) | ((with_reducible refine gate_dst (N := 4) rfl ?_); refine bxe 4 #[.int .i64 0, .int .i64 0, .int .i64 0, .int .i64 0, .int .i64 0] 25 ?_; intro bO hg w6 hbox hb; have bk := hbox; have du := nge HB hg; have dv := nge HB hg; have bP := nlt bf hg; have bQ := ngt bf hg; replace bf := nblk bf hb; replace HB := nbs HB hb; clear hb hbox hg; have jh := bQ.out; have ji := bP.out; obtain ⟨ec, ed, ee, ef, eg⟩ := c5e bk; obtain ⟨eh, ei, ej, ek, el⟩ := z5_ bk) | ((with_reducible refine gate_callee (f := 16) rfl ?_); refine goesM (some 24) rfl rfl Try.func16 (by kernel_rfl) rfl #[.agg #[.int .i64 (Go.bits .and .i64 a0 15), .int .i64 (Go.bits .and .i64 (a0 / 16) 7), .int .i64 (Go.bits .and .i64 (a0 / 128) 7), .int .i64 (Go.bits .and .i64 (a0 / 1024) 7), .int .i64 (wrap64 ((a0 / 8192) - 128))]] rfl ?_; (with_reducible refine (impl_Word32.calls k (Go.bits .and .i64 a0 15) (Go.bits .and .i64 (a0 / 16) 7) (Go.bits .and .i64 (a0 / 128) 7) (Go.bits .and .i64 (a0 / 1024) 7) (wrap64 ((a0 / 8192) - 128)) br true _ A2.out).mono ?_); rintro e w9 ⟨rfl, hb⟩; refine ⟨_, rfl, ?_⟩; replace bf := nblk bf hb; replace bk := Aside0.mk (blk_below (g := bO) (o := .cells #[.int .i64 (Go.bits .and .i64 a0 15), .int .i64 (Go.bits .and .i64 (a0 / 16) 7), .int .i64 (Go.bits .and .i64 (a0 / 128) 7), .int .i64 (Go.bits .and .i64 (a0 / 1024) 7), .int .i64 (wrap64 ((a0 / 8192) - 128))] 25 (0, 0)) (q5 bk) hb); replace HB := nbs HB hb; (try clear hb); obtain ⟨jj, jk, jl, jm, jn⟩ := c5e bk; obtain ⟨jo, jp, jq, jr, js⟩ := z5_ bk; obtain ⟨dc, dd, de, df, dg⟩ := c5e bf; obtain ⟨dh, di, dj, dk, dl⟩ := z5_ bf))
      refine bodyPost_ret (results_ct rfl _ _ bN 25 #[.int .i64 (Go.bits .and .i64 a0 15), .int .i64 (Go.bits .and .i64 (a0 / 16) 7), .int .i64 (Go.bits .and .i64 (a0 / 128) 7), .int .i64 (Go.bits .and .i64 (a0 / 1024) 7), .int .i64 (wrap64 ((a0 / 8192) - 128))] (0, 0) _ rfl (q5 bf) Try.underlying25 rfl (by kernel_rfl)) rfl ?_; exact ⟨er_, nbe HB⟩
    · rw [if_neg c4] at H
      have c4b0 : (br == a0) = false := beq_eq_false_iff_ne.mpr c4; have c4b1 : (br != a0) = true := bne_iff_ne.mpr c4; simp only [Option.some.injEq, Prod.mk.injEq] at H; obtain ⟨rfl, rfl, rfl, rfl, rfl, rfl⟩ := H
      go_enter Try.func18, Try.ntmps18
      go_wp2_with (first | ((with_reducible refine gate_dst (N := 2) rfl ?_); refine bxe 2 #[.int .i64 0, .int .i64 0, .int .i64 0, .int .i64 0, .int .i64 0] 25 ?_; intro bN hg dm hbox hb; have bf := hbox; have ds := nge HB hg; have dt := nge HB hg; replace HB := nbs HB hb; clear hb hbox hg) | ((with_reducible refine gate_dst (N := 4) rfl ?_); refine bxe 4 #[.int .i64 0, .int .i64 0, .int .i64 0, .int .i64 0, .int .i64 0] 25 ?_; intro bO hg jt hbox hb; have bk := hbox; have du := nge HB hg; have dv := nge HB hg; have bP := nlt bf hg; have bQ := ngt bf hg; replace bf := nblk bf hb; replace HB := nbs HB hb; clear hb hbox hg; have ju := bQ.out; have jv := bP.out; obtain ⟨dx, dy, dz, dA, dB⟩ := c5e bk; obtain ⟨dC, dD, dE, dF, dG⟩ := z5_ bk) | ((with_reducible refine gate_callee (f := 16) rfl ?_); refine goesM (some 24) rfl rfl Try.func16 (by kernel_rfl) rfl #[.agg #[.int .i64 (Go.bits .and .i64 a0 15), .int .i64 (Go.bits .and .i64 (a0 / 16) 7), .int .i64 (Go.bits .and .i64 (a0 / 128) 7), .int .i64 (Go.bits .and .i64 (a0 / 1024) 7), .int .i64 (wrap64 ((a0 / 8192) - 128))]] rfl ?_; (with_reducible refine (impl_Word32.calls k (Go.bits .and .i64 a0 15) (Go.bits .and .i64 (a0 / 16) 7) (Go.bits .and .i64 (a0 / 128) 7) (Go.bits .and .i64 (a0 / 1024) 7) (wrap64 ((a0 / 8192) - 128)) br true _ A2.out).mono ?_); rintro e bZ ⟨rfl, hb⟩; refine ⟨_, rfl, ?_⟩; replace bf := nblk bf hb; replace bk := Aside0.mk (blk_below (g := bO) (o := .cells #[.int .i64 (Go.bits .and .i64 a0 15), .int .i64 (Go.bits .and .i64 (a0 / 16) 7), .int .i64 (Go.bits .and .i64 (a0 / 128) 7), .int .i64 (Go.bits .and .i64 (a0 / 1024) 7), .int .i64 (wrap64 ((a0 / 8192) - 128))] 25 (0, 0)) (q5 bk) hb); replace HB := nbs HB hb; (try clear hb); obtain ⟨dH, dI, dJ, dK, dL⟩ := c5e bf; obtain ⟨dM, dN, dO, dP, dQ⟩ := z5_ bf))
      refine bodyPost_ret (results_ct rfl _ _ bN 25 #[.int .i64 0, .int .i64 0, .int .i64 0, .int .i64 0, .int .i64 0] (0, 0) _ rfl (q5 bf) Try.underlying25 rfl (by kernel_rfl)) rfl ?_; exact ⟨er_, nbe HB⟩
  · replace c3 := Bool.eq_false_iff.mpr c3
    subst c3; have H1 : (some (0, 0, 0, 0, 0, false)) = some (r1, r2, r3, r4, r5, r6) := by rw [if_neg (show ¬ (false = true) by decide)] at H; exact H
    clear H; have H := H1; clear H1; simp only [Option.some.injEq, Prod.mk.injEq] at H; obtain ⟨rfl, rfl, rfl, rfl, rfl, rfl⟩ := H
    go_enter Try.func18, Try.ntmps18
    go_wp2_with (first | ((with_reducible refine gate_dst (N := 2) rfl ?_); refine bxe 2 #[.int .i64 0, .int .i64 0, .int .i64 0, .int .i64 0, .int .i64 0] 25 ?_; intro bN hg dR hbox hb; have bf := hbox; have ds := nge HB hg; have dt := nge HB hg; replace HB := nbs HB hb; clear hb hbox hg) | ((with_reducible refine gate_dst (N := 4) rfl ?_); refine bxe 4 #[.int .i64 0, .int .i64 0, .int .i64 0, .int .i64 0, .int .i64 0] 25 ?_; intro bO hg e9 hbox hb; have bk := hbox; have du := nge HB hg; have dv := nge HB hg; have bP := nlt bf hg; have bQ := ngt bf hg; replace bf := nblk bf hb; replace HB := nbs HB hb; clear hb hbox hg; have jw := bQ.out; have jx := bP.out; obtain ⟨dS, dT, dU, dV, dW⟩ := c5e bk; obtain ⟨dX, dY, dZ, d0, d1⟩ := z5_ bk) | ((with_reducible refine gate_callee (f := 16) rfl ?_); refine goesM (some 24) rfl rfl Try.func16 (by kernel_rfl) rfl #[.agg #[.int .i64 (Go.bits .and .i64 a0 15), .int .i64 (Go.bits .and .i64 (a0 / 16) 7), .int .i64 (Go.bits .and .i64 (a0 / 128) 7), .int .i64 (Go.bits .and .i64 (a0 / 1024) 7), .int .i64 (wrap64 ((a0 / 8192) - 128))]] rfl ?_; (with_reducible refine (impl_Word32.calls k (Go.bits .and .i64 a0 15) (Go.bits .and .i64 (a0 / 16) 7) (Go.bits .and .i64 (a0 / 128) 7) (Go.bits .and .i64 (a0 / 1024) 7) (wrap64 ((a0 / 8192) - 128)) br false _ A2.out).mono ?_); rintro e b0 ⟨rfl, hb⟩; refine ⟨_, rfl, ?_⟩; replace bf := nblk bf hb; replace bk := Aside0.mk (blk_below (g := bO) (o := .cells #[.int .i64 (Go.bits .and .i64 a0 15), .int .i64 (Go.bits .and .i64 (a0 / 16) 7), .int .i64 (Go.bits .and .i64 (a0 / 128) 7), .int .i64 (Go.bits .and .i64 (a0 / 1024) 7), .int .i64 (wrap64 ((a0 / 8192) - 128))] 25 (0, 0)) (q5 bk) hb); replace HB := nbs HB hb; (try clear hb); obtain ⟨d2, d3, d4, d5, d6⟩ := c5e bf; obtain ⟨d7, d8, d9, ea, eb⟩ := z5_ bf))
    refine bodyPost_ret (results_ct rfl _ _ bN 25 #[.int .i64 0, .int .i64 0, .int .i64 0, .int .i64 0, .int .i64 0] (0, 0) _ rfl (q5 bf) Try.underlying25 rfl (by kernel_rfl)) rfl ?_; exact ⟨er_, nbe HB⟩

/-! ### spec_CodeOk: function 21 -/
def spec_CodeOk.l0 : Nat → List (S25) → Int → Option (Bool)
  | 0, _, _ => none
  | k + 1, x0, x3 => if x3 < (x0.length : Int) then (if 0 ≤ x3 then ((spec_InsOk.f ((rd_T25 x0 x3).f0) ((rd_T25 x0 x3).f1) ((rd_T25 x0 x3).f2) ((rd_T25 x0 x3).f3) ((rd_T25 x0 x3).f4)).bind fun bR => (if bR = true then (spec_CodeOk.l0 k x0 (wrap64 (x3 + 1))) else (some false))) else (none)) else ((spec_l1In.f (x0.length : Int) 1 48).bind fun bS => (some bS))
def spec_CodeOk.f (k : Nat) (l0 : List (S25)) : Option (Bool) := spec_CodeOk.l0 k l0 0
theorem spec_CodeOk.mono_l : ∀ k, (∀ y0 y1, LeO (spec_CodeOk.l0 k y0 y1) (spec_CodeOk.l0 (k + 1) y0 y1))
  | 0 => fun _ _ r h => by simp [spec_CodeOk.l0] at h
  | k + 1 => by
    have ih0 := spec_CodeOk.mono_l k
    · intro y0 y1
      unfold spec_CodeOk.l0
      repeat' first
      | (with_reducible exact ih0 _ _)
      | (with_reducible exact LeO.refl _)
      | (with_reducible exact LeO.none _)
      | (with_reducible refine LeO.ite ?_ ?_)
      | (with_reducible refine LeO.bind ?_ (fun _ => ?_))
      | exact ih0 _ _
      | exact LeO.none _
      | refine LeO.ite ?_ ?_
      | refine LeO.bind ?_ (fun _ => ?_)
theorem spec_CodeOk.mono : ∀ a0 k, LeO (spec_CodeOk.f k a0) (spec_CodeOk.f (k + 1) a0) := by
  intro a0 k; have ih0 := spec_CodeOk.mono_l k
  unfold spec_CodeOk.f
  repeat' first
      | (with_reducible exact ih0 _ _)
      | (with_reducible exact LeO.refl _)
      | (with_reducible exact LeO.none _)
      | (with_reducible refine LeO.ite ?_ ?_)
      | (with_reducible refine LeO.bind ?_ (fun _ => ?_))
      | exact ih0 _ _
      | exact LeO.none _
      | refine LeO.ite ?_ ?_
      | refine LeO.bind ?_ (fun _ => ?_)
set_option maxHeartbeats 8000000 in
set_option maxRecDepth 100000 in
theorem spec_CodeOk.calls (k : Nat) (A0 : Option Addr) (c0 : Nat) (l0 : List (S25)) (r : Bool) (w : World) (hr0 : Kd.C k25 w A0 l0.length l0) (hc0 : l0.length ≤ c0) (h : spec_CodeOk.f k l0 = some r) :
    Calls Try.prog 21 #[.slice A0 l0.length c0] w fun e w' => e = .returned (.bool r) ∧ Below w.heap.size w w' := by
  have hu25 := Try.underlying25; have bG := Aside0.mk hr0; have jy := Aside0.mk hc0; clear hr0 hc0; have HB := Aside0.mk (Below.refl w.heap.size w); have H : (spec_CodeOk.l0 k l0 0) = some r := h; clear h; have H' := Aside0.mk H; clear H
  go_enter Try.func21, Try.ntmps21
  go_wp2
  go_loopg [3] k (fun kq v3 w' => ∃ (bc : Int), v3 = .int .i64 bc ∧ Aside0 (spec_CodeOk.l0 kq l0 bc = some r) ∧ Aside0 (kq ≤ k) ∧ Aside0 (Below w.heap.size w w'))
  case atStart => exact ⟨(0), (by first | rfl | (simp; done) | (simp [*]; done)), H', ⟨Nat.le_refl _⟩, ⟨nbe HB⟩⟩
  case round =>
    clear H'; obtain ⟨bc, rfl, HA, dw, HB⟩ := hrel
    cases gk with
    | zero => exact absurd HA.out (by simp [spec_CodeOk.l0])
    | succ k1 =>
      have H := HA.out; clear HA; simp only [spec_CodeOk.l0] at H
      by_cases c2 : bc < (l0.length : Int)
      · rw [if_pos c2] at H
        have c2b0 : decide (bc < (l0.length : Int)) = true := decide_eq_true c2; clear c2
        by_cases c3 : 0 ≤ bc
        · rw [if_pos c3] at H
          have c3b0 : decide (0 ≤ bc) = true := decide_eq_true c3; clear c3; replace H := Option.bind_eq_some_iff.mp H; obtain ⟨bR, A40, H⟩ := H; replace H : (if bR = true then (spec_CodeOk.l0 k1 l0 (wrap64 (bc + 1))) else (some false)) = some r := H; have A4 := Aside0.mk A40; clear A40
          by_cases c5 : bR = true
          · subst c5
            have H1 : (spec_CodeOk.l0 k1 l0 (wrap64 (bc + 1))) = some r := by rw [if_pos rfl] at H; exact H
            clear H; have H := H1; clear H1; have H' := Aside0.mk H; clear H; have p133 : 0 ≤ (bc : Int) := of_decide_eq_true (by first | (with_reducible assumption) | assumption); have q133 : bc < (l0.length : Int) := of_decide_eq_true (by first | (with_reducible assumption) | assumption); obtain ⟨ga, e133, bv, bw, bx, bz, bA⟩ := at_T25 bG.out bc p133 q133
            cases e133
            replace bv := (HB.out.cell (World.block_lt_of_cell? w _ bv)).trans bv; replace bw := (HB.out.cell (World.block_lt_of_cell? w _ bw)).trans bw; replace bx := (HB.out.cell (World.block_lt_of_cell? w _ bx)).trans bx; replace bz := (HB.out.cell (World.block_lt_of_cell? w _ bz)).trans bz; replace bA := (HB.out.cell (World.block_lt_of_cell? w _ bA)).trans bA; replace p133 := eq_true p133; replace q133 := eq_true q133
            go_wp2_with (first | ((with_reducible refine gate_callee (f := 13) rfl ?_); refine goesM (some 14) rfl rfl Try.func13 (by kernel_rfl) rfl #[.agg #[.int .i64 ((rd_T25 l0 bc).f0), .int .i64 ((rd_T25 l0 bc).f1), .int .i64 ((rd_T25 l0 bc).f2), .int .i64 ((rd_T25 l0 bc).f3), .int .i64 ((rd_T25 l0 bc).f4)]] rfl ?_; (with_reducible refine (spec_InsOk.calls ((rd_T25 l0 bc).f0) ((rd_T25 l0 bc).f1) ((rd_T25 l0 bc).f2) ((rd_T25 l0 bc).f3) ((rd_T25 l0 bc).f4) true _ A4.out).mono ?_); rintro e w6 ⟨rfl, hb⟩; refine ⟨_, rfl, ?_⟩; replace HB := nbs HB hb; (try clear hb)))
            go_roundg k1
            case measure => have := dw.out; omega
            case rel => exact ⟨(wrap64 (bc + 1)), (by first | rfl | (simp; done) | (simp [*]; done)), H', ⟨by have := dw.out; omega⟩, ⟨nbe HB⟩⟩
          · replace c5 := Bool.eq_false_iff.mpr c5
            subst c5; have H1 : (some false) = some r := by rw [if_neg (show ¬ (false = true) by decide)] at H; exact H
            clear H; have H := H1; clear H1; obtain rfl := Option.some.inj H; have p133 : 0 ≤ (bc : Int) := of_decide_eq_true (by first | (with_reducible assumption) | assumption); have q133 : bc < (l0.length : Int) := of_decide_eq_true (by first | (with_reducible assumption) | assumption); obtain ⟨ga, e133, bv, bw, bx, bz, bA⟩ := at_T25 bG.out bc p133 q133
            cases e133
            replace bv := (HB.out.cell (World.block_lt_of_cell? w _ bv)).trans bv; replace bw := (HB.out.cell (World.block_lt_of_cell? w _ bw)).trans bw; replace bx := (HB.out.cell (World.block_lt_of_cell? w _ bx)).trans bx; replace bz := (HB.out.cell (World.block_lt_of_cell? w _ bz)).trans bz; replace bA := (HB.out.cell (World.block_lt_of_cell? w _ bA)).trans bA; replace p133 := eq_true p133; replace q133 := eq_true q133
            go_wp2_with (first | ((with_reducible refine gate_callee (f := 13) rfl ?_); refine goesM (some 14) rfl rfl Try.func13 (by kernel_rfl) rfl #[.agg #[.int .i64 ((rd_T25 l0 bc).f0), .int .i64 ((rd_T25 l0 bc).f1), .int .i64 ((rd_T25 l0 bc).f2), .int .i64 ((rd_T25 l0 bc).f3), .int .i64 ((rd_T25 l0 bc).f4)]] rfl ?_; (with_reducible refine (spec_InsOk.calls ((rd_T25 l0 bc).f0) ((rd_T25 l0 bc).f1) ((rd_T25 l0 bc).f2) ((rd_T25 l0 bc).f3) ((rd_T25 l0 bc).f4) false _ A4.out).mono ?_); rintro e w7 ⟨rfl, hb⟩; refine ⟨_, rfl, ?_⟩; replace HB := nbs HB hb; (try clear hb)))
            go_ret
            exact ⟨er_, nbe HB⟩
        · rw [if_neg c3] at H
          exact absurd H (by simp)
      · rw [if_neg c2] at H
        have c2b0 : decide (bc < (l0.length : Int)) = false := decide_eq_false c2; clear c2; replace H := Option.bind_eq_some_iff.mp H; obtain ⟨bS, A80, H⟩ := H; replace H : (some bS) = some r := H; have A8 := Aside0.mk A80; clear A80; obtain rfl := Option.some.inj H
        go_wp2_with (first | ((with_reducible refine gate_callee (f := 36) rfl ?_); refine goesM (some 18) rfl rfl Try.func36 (by kernel_rfl) rfl #[.int .i64 (l0.length : Int), .int .i64 1, .int .i64 48] rfl ?_; (with_reducible refine (spec_l1In.calls (l0.length : Int) 1 48 bS _ A8.out).mono ?_); rintro e w' ⟨rfl, ⟨nd, rfl⟩⟩; refine ⟨_, rfl, ?_⟩))
        go_ret
        exact ⟨er_, nbe HB⟩

-- NOT PRINTED: function 54 (impl_Ins_54)

-- NOT PRINTED: function 41 (impl_Ins_41)

/-! ### impl_CodeOk_1: function 42 -/
def impl_CodeOk_1.f (k : Nat) (a0_0 : Int) (a0_1 : Int) (a0_2 : Int) (a0_3 : Int) (a0_4 : Int) : Option (Bool) := (impl_InsOk.f k a0_0 a0_1 a0_2 a0_3 a0_4).bind fun bH => (some (!bH))
theorem impl_CodeOk_1.mono : ∀ a0 a1 a2 a3 a4 k, LeO (impl_CodeOk_1.f k a0 a1 a2 a3 a4) (impl_CodeOk_1.f (k + 1) a0 a1 a2 a3 a4) := by
  intro a0 a1 a2 a3 a4 k
  unfold impl_CodeOk_1.f
  repeat' first
      | (with_reducible exact impl_InsOk.mono _ _ _ _ _ _)
      | (with_reducible exact LeO.refl _)
      | (with_reducible exact LeO.none _)
      | (with_reducible refine LeO.ite ?_ ?_)
      | (with_reducible refine LeO.bind ?_ (fun _ => ?_))
      | exact impl_InsOk.mono _ _ _ _ _ _
      | exact LeO.none _
      | refine LeO.ite ?_ ?_
      | refine LeO.bind ?_ (fun _ => ?_)
set_option maxHeartbeats 8000000 in
set_option maxRecDepth 100000 in
theorem impl_CodeOk_1.calls (k : Nat) (a0_0 : Int) (a0_1 : Int) (a0_2 : Int) (a0_3 : Int) (a0_4 : Int) (r : Bool) (w : World) (h : impl_CodeOk_1.f k a0_0 a0_1 a0_2 a0_3 a0_4 = some r) :
    Calls Try.prog 42 #[.agg #[.int .i64 a0_0, .int .i64 a0_1, .int .i64 a0_2, .int .i64 a0_3, .int .i64 a0_4]] w fun e w' => e = .returned (.bool r) ∧ Below w.heap.size w w' := by
  have hu25 := Try.underlying25; have HB := Aside0.mk (Below.refl w.heap.size w); have H : ((impl_InsOk.f k a0_0 a0_1 a0_2 a0_3 a0_4).bind fun bH => (some (!bH))) = some r := h; clear h; replace H := Option.bind_eq_some_iff.mp H; obtain ⟨bH, A20, H⟩ := H; replace H : (some (!bH)) = some r := H; have A2 := Aside0.mk A20; clear A20; obtain rfl := Option.some.inj H
  go_enter Try.func42, Try.ntmps42
  go_wp2_with (first | ((with_reducible refine gate_dst (N := 1) rfl ?_); refine bxe 1 #[.int .i64 a0_0, .int .i64 a0_1, .int .i64 a0_2, .int .i64 a0_3, .int .i64 a0_4] 25 ?_; intro jz hg w3 hbox hb; have bT := hbox; have jA := nge HB hg; have jB := nge HB hg; replace HB := nbs HB hb; clear hb hbox hg; obtain ⟨eY, eZ, e0, e2, e3⟩ := c5e bT; obtain ⟨e4, e5, e6, e7, e8⟩ := z5_ bT) | ((with_reducible refine gate_callee (f := 14) rfl ?_); refine goesM (some 4) rfl rfl Try.func14 (by kernel_rfl) rfl #[.agg #[.int .i64 a0_0, .int .i64 a0_1, .int .i64 a0_2, .int .i64 a0_3, .int .i64 a0_4]] rfl ?_; (with_reducible refine (impl_InsOk.calls k a0_0 a0_1 a0_2 a0_3 a0_4 bH _ A2.out).mono ?_); rintro e w5 ⟨rfl, hb⟩; refine ⟨_, rfl, ?_⟩; replace bT := nblk bT hb; replace HB := nbs HB hb; (try clear hb)))
  go_ret
  exact ⟨er_, nbe HB⟩

/-! ### CF_impl_CodeOk_1: function 41 with function 42 -/
def CF_impl_CodeOk_1.l0 : Nat → List (S25) → Int → Option Int
  | 0, _, _ => none
  | k + 1, l, i => if i < (l.length : Int) then (if 0 ≤ i then (impl_CodeOk_1.f k (rd_T25 l i).f0 (rd_T25 l i).f1 (rd_T25 l i).f2 (rd_T25 l i).f3 (rd_T25 l i).f4).bind fun t => (if t = true then some i else CF_impl_CodeOk_1.l0 k l (wrap64 (i + 1))) else none) else some (-1)
def CF_impl_CodeOk_1.f (k : Nat) (l0 : List (S25)) (u : Unit) : Option Bool := (CF_impl_CodeOk_1.l0 k l0 0).bind fun t => some (decide (t ≥ 0))
theorem CF_impl_CodeOk_1.mono_l : ∀ k, (∀ y0 y1, LeO (CF_impl_CodeOk_1.l0 k y0 y1) (CF_impl_CodeOk_1.l0 (k + 1) y0 y1))
  | 0 => fun _ _ r h => by simp [CF_impl_CodeOk_1.l0] at h
  | k + 1 => by
    have ih0 := CF_impl_CodeOk_1.mono_l k
    · intro y0 y1
      unfold CF_impl_CodeOk_1.l0
      repeat' first
      | (with_reducible exact ih0 _ _)
      | (with_reducible exact impl_CodeOk_1.mono _ _ _ _ _ _)
      | (with_reducible exact LeO.refl _)
      | (with_reducible exact LeO.none _)
      | (with_reducible refine LeO.ite ?_ ?_)
      | (with_reducible refine LeO.bind ?_ (fun _ => ?_))
      | exact ih0 _ _
      | exact impl_CodeOk_1.mono _ _ _ _ _ _
      | exact LeO.none _
      | refine LeO.ite ?_ ?_
      | refine LeO.bind ?_ (fun _ => ?_)
theorem CF_impl_CodeOk_1.mono : ∀ a0 a1 k, LeO (CF_impl_CodeOk_1.f k a0 a1) (CF_impl_CodeOk_1.f (k + 1) a0 a1) := by
  intro a0 a1 k; have ih0 := CF_impl_CodeOk_1.mono_l k
  unfold CF_impl_CodeOk_1.f
  repeat' first
      | (with_reducible exact ih0 _ _)
      | (with_reducible exact impl_CodeOk_1.mono _ _ _ _ _ _)
      | (with_reducible exact LeO.refl _)
      | (with_reducible exact LeO.none _)
      | (with_reducible refine LeO.ite ?_ ?_)
      | (with_reducible refine LeO.bind ?_ (fun _ => ?_))
      | exact ih0 _ _
      | exact impl_CodeOk_1.mono _ _ _ _ _ _
      | exact LeO.none _
      | refine LeO.ite ?_ ?_
      | refine LeO.bind ?_ (fun _ => ?_)
set_option maxHeartbeats 8000000 in
set_option maxRecDepth 100000 in
theorem CF_impl_CodeOk_1.idx (k : Nat) (A0 : Option Addr) (c0 : Nat) (l0 : List (S25)) (r : Int) (w : World) (hr0 : Kd.C k25 w A0 l0.length l0) (h : CF_impl_CodeOk_1.l0 k l0 0 = some r) :
  Calls Try.prog 54 #[.slice A0 l0.length c0, .func (.func 42) #[] #[]] w fun e w' => e = .returned (.int .i64 r) ∧ Below w.heap.size w w' := by
 have hu25 := Try.underlying25; have bG := Aside0.mk hr0; have HB := Aside0.mk (Below.refl w.heap.size w); have H' := Aside0.mk h; clear hr0 h
 go_enter Try.func54, Try.ntmps54
 go_wp2
 go_loopg [5, 8] k (fun kq v5 v8 w' => ∃ x8 : Int, v8 = .int .i64 x8 ∧ Aside0 (CF_impl_CodeOk_1.l0 kq l0 x8 = some r) ∧ Aside0 (kq ≤ k) ∧ Aside0 (Below w.heap.size w w'))
 case atStart => exact ⟨0, rfl, H', ⟨Nat.le_refl _⟩, HB⟩
 case round =>
  clear H'; obtain ⟨x8, rfl, HA, HK, HB⟩ := hrel
  cases gk with
  | zero => exact absurd HA.out (by simp [CF_impl_CodeOk_1.l0])
  | succ k1 =>
   have H := HA.out; clear HA; simp only [CF_impl_CodeOk_1.l0] at H
   by_cases c1 : x8 < (l0.length : Int)
   · rw [if_pos c1] at H
     by_cases c2 : 0 ≤ x8
     · rw [if_pos c2] at H
       replace H := Option.bind_eq_some_iff.mp H; obtain ⟨t, A80, H⟩ := H; have A8 := Aside0.mk A80; clear A80; obtain ⟨jC, e1, hx_0, hx_1, hx_2, hx_3, hx_4⟩ := at_T25 bG.out x8 c2 c1
       cases e1
       replace hx_0 := (HB.out.cell (World.block_lt_of_cell? w _ hx_0)).trans hx_0; replace hx_1 := (HB.out.cell (World.block_lt_of_cell? w _ hx_1)).trans hx_1; replace hx_2 := (HB.out.cell (World.block_lt_of_cell? w _ hx_2)).trans hx_2; replace hx_3 := (HB.out.cell (World.block_lt_of_cell? w _ hx_3)).trans hx_3; replace hx_4 := (HB.out.cell (World.block_lt_of_cell? w _ hx_4)).trans hx_4; have c1b : decide (x8 < (l0.length : Int)) = true := decide_eq_true c1; have c2b : decide (0 ≤ x8) = true := decide_eq_true c2; replace c2 := eq_true c2; replace c1 := eq_true c1
       cases t with
       | true =>
         obtain rfl : x8 = r := by simpa using H
         clear H
         go_wp2_with (first | (go_at_call 42; refine (impl_CodeOk_1.calls k1 (rd_T25 l0 x8).f0 (rd_T25 l0 x8).f1 (rd_T25 l0 x8).f2 (rd_T25 l0 x8).f3 (rd_T25 l0 x8).f4 true _ A8.out).mono ?_; rintro e w' ⟨rfl, hb⟩))
         go_ret
         exact ⟨rfl, below_step HB.out hb⟩
       | false =>
         have H' : Aside0 (CF_impl_CodeOk_1.l0 k1 l0 (wrap64 (x8 + 1)) = some r) := ⟨by simpa using H⟩; clear H
         go_wp2_with (first | (go_at_call 42; refine (impl_CodeOk_1.calls k1 (rd_T25 l0 x8).f0 (rd_T25 l0 x8).f1 (rd_T25 l0 x8).f2 (rd_T25 l0 x8).f3 (rd_T25 l0 x8).f4 false _ A8.out).mono ?_; rintro e w' ⟨rfl, hb⟩))
         go_roundg k1
         case measure => have := HK.out; omega
         case rel => exact ⟨_, rfl, H', ⟨by have := HK.out; omega⟩, ⟨below_step HB.out hb⟩⟩
     · rw [if_neg c2] at H
       exact absurd H (by simp)
   · rw [if_neg c1] at H
     obtain rfl : -1 = r := by simpa using H
     clear H; go_wp2
     go_ret
     exact ⟨rfl, HB.out⟩
set_option maxHeartbeats 8000000 in
set_option maxRecDepth 100000 in
theorem CF_impl_CodeOk_1.calls (k : Nat) (A0 : Option Addr) (c0 : Nat) (l0 : List (S25)) (u : Unit) (r : Bool) (w : World) (hr0 : Kd.C k25 w A0 l0.length l0) (hc0 : l0.length ≤ c0) (h : CF_impl_CodeOk_1.f k l0 u = some r) :
  Calls Try.prog 41 #[.slice A0 l0.length c0, .func (.func 42) #[] #[]] w fun e w' => e = .returned (.bool r) ∧ Below w.heap.size w w' := by
 obtain ⟨t, A80, H⟩ := Option.bind_eq_some_iff.mp h; have A8 := Aside0.mk A80; have bG := Aside0.mk hr0; obtain rfl : decide (t ≥ 0) = r := by simpa using H
 clear A80 H h hr0 hc0
 go_enter Try.func41, Try.ntmps41
 go_wp2_with (first | (go_at_call 54; refine (CF_impl_CodeOk_1.idx k A0 c0 l0 t _ bG.out A8.out).mono ?_; rintro e w' ⟨rfl, hb⟩))
 go_ret
 exact ⟨rfl, hb⟩

end Go.Proofs.Ytopbiecjfhfhdaa.PFnCodes
