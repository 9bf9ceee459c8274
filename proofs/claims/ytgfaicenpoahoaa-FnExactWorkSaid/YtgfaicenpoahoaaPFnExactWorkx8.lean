-- Written by a program of this session (wip/patch.py turns a copy of the kit's print): the functions that the law reaches, and their walks.
import Derived.Test.YtgfaicenpoahoaaPFnExactWorkx0
import Derived.Test.YtgfaicenpoahoaaPFnExactWorkx1
import Derived.Test.YtgfaicenpoahoaaCFnExactWork
namespace Go.Proofs.Ytgfaicenpoahoaa.PFnExactWork
open Go.RowKit Go.Proofs.YtgfaicenpoahoaaW.PrintWords Go.Proofs.YtgfaicenpoahoaaW.PrintLast Go.Proofs.YtgfaicenpoahoaaW.PrintMore Go.Proofs.YtgfaicenpoahoaaW.Mine
attribute [local go_sem] max2_int min2_int max_two min_two max_three min_three max_four min_four   -- for this text's walks alone
set_option linter.unusedVariables false
set_option linter.unusedSimpArgs false

attribute [local go_sem high] eqA28
/-! ### laws_toIns: function 5 -/
def laws_toIns.f (a0_0 : Int) (a0_1 : Int) (a0_2 : Int) (a0_3 : Int) (a0_4 : Int) : Option (Int × Int × Int × Int × Int) := some (a0_0, a0_1, a0_2, a0_3, a0_4)
set_option maxHeartbeats 8000000 in
set_option maxRecDepth 100000 in
theorem laws_toIns.calls (a0_0 : Int) (a0_1 : Int) (a0_2 : Int) (a0_3 : Int) (a0_4 : Int) (r1 : Int) (r2 : Int) (r3 : Int) (r4 : Int) (r5 : Int) (w : World) (h : laws_toIns.f a0_0 a0_1 a0_2 a0_3 a0_4 = some (r1, r2, r3, r4, r5)) :
  Calls Try.prog 5 #[.agg #[.int .i64 a0_0, .int .i64 a0_1, .int .i64 a0_2, .int .i64 a0_3, .int .i64 a0_4]] w fun e w' => e = .returned (.agg #[.int .i64 r1, .int .i64 r2, .int .i64 r3, .int .i64 r4, .int .i64 r5]) ∧ Below w.heap.size w w' := by
 have hu23 := Try.underlying23; have hu34 := Try.underlying34; have HB := Aside0.mk (Below.refl w.heap.size w); have H : (some (a0_0, a0_1, a0_2, a0_3, a0_4)) = some (r1, r2, r3, r4, r5) := h; clear h; simp only [Option.some.injEq, Prod.mk.injEq] at H; obtain ⟨rfl, rfl, rfl, rfl, rfl⟩ := H
 go_enter Try.func5, Try.ntmps5
 go_wp2_with (first | ((with_reducible refine gate_dst (N := 1) rfl ?_); refine bxe 1 #[.int .i64 a0_0, .int .i64 a0_1, .int .i64 a0_2, .int .i64 a0_3, .int .i64 a0_4] 23 ?_; intro gI hg w2 hbox hb; have bt := hbox; have gJ := nge HB hg; have gK := nge HB hg; replace HB := nbs HB hb; clear hb hbox hg) | ((with_reducible refine gate_dst (N := 2) rfl ?_); refine bxe 2 #[.int .i64 0, .int .i64 0, .int .i64 0, .int .i64 0, .int .i64 0] 34 ?_; intro eD hg w3 hbox hb; have bA := hbox; have gL := nge HB hg; have gM := nge HB hg; have eE := nlt bt hg; have eF := ngt bt hg; replace bt := nblk bt hb; replace HB := nbs HB hb; clear hb hbox hg) | ((with_reducible refine gate_dst (N := 3) rfl ?_); refine bxe 3 #[.int .i64 0, .int .i64 0, .int .i64 0, .int .i64 0, .int .i64 0] 34 ?_; intro gN hg w4 hbox hb; have dJ := hbox; have gO := nge HB hg; have gP := nge HB hg; have eG := nlt bt hg; have eH := ngt bt hg; have dK := nlt bA hg; have eI := ngt bA hg; replace bt := nblk bt hb; replace bA := nblk bA hb; replace HB := nbs HB hb; clear hb hbox hg; have eJ := eE.out; have eK := eF.out; have dL := eG.out; have dM := eH.out; obtain ⟨dN, dO, dP, dQ, eL⟩ := c5e bt; obtain ⟨dR, dS, dT, dU, eM⟩ := z5_ bt; have eN := eI.out; have eO := dK.out; obtain ⟨eP, eQ, eR, eS, gQ⟩ := c5e dJ; obtain ⟨eT, eU, eV, eW, gR⟩ := z5_ dJ; obtain ⟨bO, bP, bQ, da, dr⟩ := c5e bA; obtain ⟨bR, bS, bT, db, ds⟩ := z5_ bA))
 refine bodyPost_ret (results_cell_row rfl _ _ eD 34 #[.int .i64 a0_0, .int .i64 a0_1, .int .i64 a0_2, .int .i64 a0_3, .int .i64 a0_4] (0, 0) _ rfl (p5 bA (k5_ dK.out (nb bA))) Try.underlying34 rfl (by kernel_rfl)) rfl ?_; exact ⟨er_, nbe HB⟩

/-! ### laws_toKey: function 14 -/
def laws_toKey.f (a0_0 : Int) (a0_1 : Int) (a0_2 : Int) (a0_3 : Int) : Option (Int × Int × Int × Int) := some (a0_0, a0_1, a0_2, a0_3)
set_option maxHeartbeats 8000000 in
set_option maxRecDepth 100000 in
theorem laws_toKey.calls (a0_0 : Int) (a0_1 : Int) (a0_2 : Int) (a0_3 : Int) (r1 : Int) (r2 : Int) (r3 : Int) (r4 : Int) (w : World) (h : laws_toKey.f a0_0 a0_1 a0_2 a0_3 = some (r1, r2, r3, r4)) :
  Calls Try.prog 14 #[.agg #[.int .i64 a0_0, .int .i64 a0_1, .int .i64 a0_2, .int .i64 a0_3]] w fun e w' => e = .returned (.agg #[.int .i64 r1, .int .i64 r2, .int .i64 r3, .int .i64 r4]) ∧ Below w.heap.size w w' := by
 have hu25 := Try.underlying25; have hu28 := Try.underlying28; have HB := Aside0.mk (Below.refl w.heap.size w); have H : (some (a0_0, a0_1, a0_2, a0_3)) = some (r1, r2, r3, r4) := h; clear h; simp only [Option.some.injEq, Prod.mk.injEq] at H; obtain ⟨rfl, rfl, rfl, rfl⟩ := H
 go_enter Try.func14, Try.ntmps14
 go_wp2_with (first | ((with_reducible refine gate_dst (N := 1) rfl ?_); refine bxe 1 #[.int .i64 a0_0, .int .i64 a0_1, .int .i64 a0_2, .int .i64 a0_3] 25 ?_; intro gS hg w2 hbox hb; have bu := hbox; have gT := nge HB hg; have gU := nge HB hg; replace HB := nbs HB hb; clear hb hbox hg) | ((with_reducible refine gate_dst (N := 2) rfl ?_); refine bxe 2 #[.int .i64 0, .int .i64 0, .int .i64 0, .int .i64 0] 28 ?_; intro eX hg w3 hbox hb; have bB := hbox; have gV := nge HB hg; have gW := nge HB hg; have eY := nlt bu hg; have eZ := ngt bu hg; replace bu := nblk bu hb; replace HB := nbs HB hb; clear hb hbox hg) | ((with_reducible refine gate_dst (N := 3) rfl ?_); refine bxe 3 #[.int .i64 0, .int .i64 0, .int .i64 0, .int .i64 0] 28 ?_; intro gX hg w4 hbox hb; have dV := hbox; have gY := nge HB hg; have gZ := nge HB hg; have e0 := nlt bu hg; have e1 := ngt bu hg; have dW := nlt bB hg; have e2 := ngt bB hg; replace bu := nblk bu hb; replace bB := nblk bB hb; replace HB := nbs HB hb; clear hb hbox hg; have eJ := eY.out; have eK := eZ.out; have dL := e0.out; have dM := e1.out; obtain ⟨dN, dO, dP, dQ⟩ := c4e bu; obtain ⟨dR, dS, dT, dU⟩ := z4_ bu; have eN := e2.out; have eO := dW.out; obtain ⟨eP, eQ, eR, eS⟩ := c4e dV; obtain ⟨eT, eU, eV, eW⟩ := z4_ dV; obtain ⟨bO, bP, bQ, da⟩ := c4e bB; obtain ⟨bR, bS, bT, db⟩ := z4_ bB))
 refine bodyPost_ret (results_cell_row rfl _ _ eX 28 #[.int .i64 a0_0, .int .i64 a0_1, .int .i64 a0_2, .int .i64 a0_3] (0, 0) _ rfl (p4 bB (k4_ dW.out (nb bB))) Try.underlying28 rfl (by kernel_rfl)) rfl ?_; exact ⟨er_, nbe HB⟩

/-! ### laws_toWord: function 6 -/
def laws_toWord.f (a0_0 : Int) (a0_1 : Bool) (a0_2 : Int) (a0_3 : Int) (a0_4 : Int) (a0_5 : Int) : Option (Int × Bool × Int × Int × Int × Int) := (laws_toKey.f a0_2 a0_3 a0_4 a0_5).bind fun bz => (some (a0_0, a0_1, bz.1, bz.2.1, bz.2.2.1, bz.2.2.2))
set_option maxHeartbeats 8000000 in
set_option maxRecDepth 100000 in
theorem laws_toWord.calls (a0_0 : Int) (a0_1 : Bool) (a0_2 : Int) (a0_3 : Int) (a0_4 : Int) (a0_5 : Int) (r1 : Int) (r2 : Bool) (r3 : Int) (r4 : Int) (r5 : Int) (r6 : Int) (w : World) (h : laws_toWord.f a0_0 a0_1 a0_2 a0_3 a0_4 a0_5 = some (r1, r2, r3, r4, r5, r6)) :
  Calls Try.prog 6 #[.agg #[.int .i64 a0_0, .bool a0_1, .int .i64 a0_2, .int .i64 a0_3, .int .i64 a0_4, .int .i64 a0_5]] w fun e w' => e = .returned (.agg #[.int .i64 r1, .bool r2, .int .i64 r3, .int .i64 r4, .int .i64 r5, .int .i64 r6]) ∧ Below w.heap.size w w' := by
 have hu27 := Try.underlying27; have hu30 := Try.underlying30; have hu25 := Try.underlying25; have hu28 := Try.underlying28; have HB := Aside0.mk (Below.refl w.heap.size w); have H : ((laws_toKey.f a0_2 a0_3 a0_4 a0_5).bind fun bz => (some (a0_0, a0_1, bz.1, bz.2.1, bz.2.2.1, bz.2.2.2))) = some (r1, r2, r3, r4, r5, r6) := h; clear h; replace H := Option.bind_eq_some_iff.mp H; obtain ⟨⟨dt, du, dv, dw⟩, A20, H⟩ := H; replace H : (some (a0_0, a0_1, dt, du, dv, dw)) = some (r1, r2, r3, r4, r5, r6) := H; have A2 := Aside0.mk A20; clear A20; simp only [Option.some.injEq, Prod.mk.injEq] at H; obtain ⟨rfl, rfl, rfl, rfl, rfl, rfl⟩ := H
 go_enter Try.func6, Try.ntmps6
 go_wp2_with (first | ((with_reducible refine gate_dst (N := 1) rfl ?_); refine bxe 1 #[.int .i64 a0_0, .bool a0_1, .int .i64 a0_2, .int .i64 a0_3, .int .i64 a0_4, .int .i64 a0_5] 27 ?_; intro g0 hg w3 hbox hb; have bn := hbox; have g1 := nge HB hg; have g2 := nge HB hg; replace HB := nbs HB hb; clear hb hbox hg) | ((with_reducible refine gate_dst (N := 2) rfl ?_); refine bxe 2 #[.int .i64 0, .bool false, .int .i64 0, .int .i64 0, .int .i64 0, .int .i64 0] 30 ?_; intro e3 hg w4 hbox hb; have bv := hbox; have g3 := nge HB hg; have g4 := nge HB hg; have e4 := nlt bn hg; have e5 := ngt bn hg; replace bn := nblk bn hb; replace HB := nbs HB hb; clear hb hbox hg) | ((with_reducible refine gate_dst (N := 3) rfl ?_); refine bxe 3 #[.int .i64 0, .bool false, .int .i64 0, .int .i64 0, .int .i64 0, .int .i64 0] 30 ?_; intro e6 hg w5 hbox hb; have bU := hbox; have g5 := nge HB hg; have g6 := nge HB hg; have e7 := nlt bn hg; have e8 := ngt bn hg; have dX := nlt bv hg; have e9 := ngt bv hg; replace bn := nblk bn hb; replace bv := nblk bv hb; replace HB := nbs HB hb; clear hb hbox hg; have dL := e4.out; have dM := e5.out; have g7 := e7.out; have g8 := e8.out; obtain ⟨dY, dZ, d0, d1, ga, gb⟩ := c6e bn; obtain ⟨d2, d3, d4, d5, gc, gd⟩ := z6_ bn; have g9 := e9.out; have ha := dX.out; obtain ⟨bO, bP, bQ, da, dr, d6⟩ := c6e bU; obtain ⟨bR, bS, bT, db, ds, d7⟩ := z6_ bU) | ((with_reducible refine gate_callee (f := 14) rfl ?_); refine goesM (some 12) rfl rfl Try.func14 (by kernel_rfl) rfl #[.agg #[.int .i64 a0_2, .int .i64 a0_3, .int .i64 a0_4, .int .i64 a0_5]] rfl ?_; (with_reducible refine (laws_toKey.calls a0_2 a0_3 a0_4 a0_5 dt du dv dw _ A2.out).mono ?_); rintro e dx ⟨rfl, hb⟩; refine ⟨_, rfl, ?_⟩; replace bn := nblk bn hb; replace bv := nblk bv hb; replace bU := Aside0.mk (blk_below (g := e6) (o := .cells #[.int .i64 a0_0, .bool a0_1, .int .i64 0, .int .i64 0, .int .i64 0, .int .i64 0] 30 (0, 0)) (qp bU) hb); replace HB := nbs HB hb; (try clear hb); obtain ⟨dy, dz, dA, d8, gf, gg⟩ := c6e bU; obtain ⟨dB, dC, dD, d9, gh, gi⟩ := z6_ bU; obtain ⟨gj, gl, gm, hc, hd, hf⟩ := c6e bv; obtain ⟨gn, gp, gq, hh, hj, hl⟩ := z6_ bv))
 refine bodyPost_ret (results_cell_row rfl _ _ e3 30 #[.int .i64 a0_0, .bool a0_1, .int .i64 dt, .int .i64 du, .int .i64 dv, .int .i64 dw] (0, 0) _ rfl (p6 bv (k4_ dX.out (nb bv))) Try.underlying30 rfl (by kernel_rfl)) rfl ?_; exact ⟨er_, nbe HB⟩

/-! ### impl_Plain: function 29 -/
def impl_Plain.f (a0 : Int) : Option (Int × Bool × Int × Int × Int × Int) := some (Go.bits .and .i64 a0 65535, false, 0, 0, 0, 0)
set_option maxHeartbeats 8000000 in
set_option maxRecDepth 100000 in
theorem impl_Plain.calls (a0 : Int) (r1 : Int) (r2 : Bool) (r3 : Int) (r4 : Int) (r5 : Int) (r6 : Int) (w : World) (h : impl_Plain.f a0 = some (r1, r2, r3, r4, r5, r6)) :
  Calls Try.prog 29 #[.int .i64 a0] w fun e w' => e = .returned (.agg #[.int .i64 r1, .bool r2, .int .i64 r3, .int .i64 r4, .int .i64 r5, .int .i64 r6]) ∧ Below w.heap.size w w' := by
 have hu30 := Try.underlying30; have HB := Aside0.mk (Below.refl w.heap.size w); have H : (some (Go.bits .and .i64 a0 65535, false, 0, 0, 0, 0)) = some (r1, r2, r3, r4, r5, r6) := h; clear h; simp only [Option.some.injEq, Prod.mk.injEq] at H; obtain ⟨rfl, rfl, rfl, rfl, rfl, rfl⟩ := H
 go_enter Try.func29, Try.ntmps29
 go_wp2_with (first | ((with_reducible refine gate_dst (N := 2) rfl ?_); refine bxe 2 #[.int .i64 0, .bool false, .int .i64 0, .int .i64 0, .int .i64 0, .int .i64 0] 30 ?_; intro gr hg w2 hbox hb; have dE := hbox; have hm := nge HB hg; have hn := nge HB hg; replace HB := nbs HB hb; clear hb hbox hg; obtain ⟨ho, hp, hq, hr, hs, ht⟩ := c6e dE; obtain ⟨hu, hv, hw, hx, hy, hz⟩ := z6_ dE))
 refine bodyPost_ret (results_cell_row rfl _ _ gr 30 #[.int .i64 (Go.bits .and .i64 a0 65535), .bool false, .int .i64 0, .int .i64 0, .int .i64 0, .int .i64 0] (0, 0) _ rfl (q6 dE) Try.underlying30 rfl (by kernel_rfl)) rfl ?_; exact ⟨er_, nbe HB⟩

/-! ### impl_in: function 45 -/
def impl_in.f (a0 : Int) (a1 : Int) (a2 : Int) : Option (Bool) := if a0 ≥ a1 then (some (decide (a0 ≤ a2))) else (some false)
set_option maxHeartbeats 8000000 in
set_option maxRecDepth 100000 in
theorem impl_in.calls (a0 : Int) (a1 : Int) (a2 : Int) (r : Bool) (w : World) (h : impl_in.f a0 a1 a2 = some r) :
  Calls Try.prog 45 #[.int .i64 a0, .int .i64 a1, .int .i64 a2] w fun e w' => e = .returned (.bool r) ∧ Drawn0 w w' := by
 have H : (if a0 ≥ a1 then (some (decide (a0 ≤ a2))) else (some false)) = some r := h; clear h
 by_cases c4 : a0 ≥ a1
 ·rw [if_pos c4] at H
  have c4b0 : decide (a1 ≤ a0) = true := decide_eq_true c4; clear c4; obtain rfl := Option.some.inj H
  go_enter Try.func45, Try.ntmps45
  go_wp2
  go_ret
  exact ⟨by first | rfl | (simp; done) | (simp [*]; done), by repeat (first | exact Drawn0.refl _ | apply Drawn0.step)⟩
 ·rw [if_neg c4] at H
  have c4b0 : decide (a1 ≤ a0) = false := decide_eq_false c4; clear c4; obtain rfl := Option.some.inj H
  go_enter Try.func45, Try.ntmps45
  go_wp2
  go_ret
  exact ⟨by first | rfl | (simp; done) | (simp [*]; done), by repeat (first | exact Drawn0.refl _ | apply Drawn0.step)⟩

/-! ### impl_BoundsOk: function 49 -/
def impl_BoundsOk.f (a0 : Int) (a1 : Int) : Option (Bool) := (impl_in.f a0 0 a1).bind fun bV => (if bV = true then (some (decide (a1 ≤ 4096))) else (some false))
set_option maxHeartbeats 8000000 in
set_option maxRecDepth 100000 in
theorem impl_BoundsOk.calls (a0 : Int) (a1 : Int) (r : Bool) (w : World) (h : impl_BoundsOk.f a0 a1 = some r) :
  Calls Try.prog 49 #[.int .i64 a0, .int .i64 a1] w fun e w' => e = .returned (.bool r) ∧ Drawn0 w w' := by
 have H : ((impl_in.f a0 0 a1).bind fun bV => (if bV = true then (some (decide (a1 ≤ 4096))) else (some false))) = some r := h; clear h; replace H := Option.bind_eq_some_iff.mp H; obtain ⟨bV, A30, H⟩ := H; replace H : (if bV = true then (some (decide (a1 ≤ 4096))) else (some false)) = some r := H; have A3 := Aside0.mk A30; clear A30
 by_cases c4 : bV = true
 ·subst c4
  have H1 : (some (decide (a1 ≤ 4096))) = some r := by rw [if_pos rfl] at H; exact H
  clear H; have H := H1; clear H1; obtain rfl := Option.some.inj H
  go_enter Try.func49, Try.ntmps49
  go_wp2_with (first | ((with_reducible refine gate_callee (f := 45) rfl ?_); refine goesM (some 7) rfl rfl Try.func45 (by kernel_rfl) rfl #[.int .i64 a0, .int .i64 0, .int .i64 a1] rfl ?_; (with_reducible refine (impl_in.calls a0 0 a1 true _ A3.out).mono ?_); rintro e w' ⟨rfl, ⟨nd, rfl⟩⟩; refine ⟨_, rfl, ?_⟩))
  go_ret
  exact ⟨by first | rfl | (simp; done) | (simp [*]; done), by repeat (first | exact Drawn0.refl _ | apply Drawn0.step)⟩
 ·replace c4 := Bool.eq_false_iff.mpr c4
  subst c4; have H1 : (some false) = some r := by rw [if_neg (show ¬ (false = true) by decide)] at H; exact H
  clear H; have H := H1; clear H1; obtain rfl := Option.some.inj H
  go_enter Try.func49, Try.ntmps49
  go_wp2_with (first | ((with_reducible refine gate_callee (f := 45) rfl ?_); refine goesM (some 7) rfl rfl Try.func45 (by kernel_rfl) rfl #[.int .i64 a0, .int .i64 0, .int .i64 a1] rfl ?_; (with_reducible refine (impl_in.calls a0 0 a1 false _ A3.out).mono ?_); rintro e w' ⟨rfl, ⟨nd, rfl⟩⟩; refine ⟨_, rfl, ?_⟩))
  go_ret
  exact ⟨by first | rfl | (simp; done) | (simp [*]; done), by repeat (first | exact Drawn0.refl _ | apply Drawn0.step)⟩

/-! ### impl_Pack: function 56 -/
def impl_Pack.l0 : Nat → Int → Int → Int → Option (Int × Int × Int × Bool)
 | 0, _, _, _ => none
 | k + 1, x0, x1, bi => if bi < 7 then (if 0 ≤ bi then (if (shl .i64 1 bi) = 0 then (none) else (if (wrap64 (Int.tdiv x0 (shl .i64 1 bi))) ≤ 63 then (if (wrap64 (Int.tdiv (wrap64 ((wrap64 ((wrap64 (x1 - (wrap64 ((wrap64 (Int.tdiv x0 (shl .i64 1 bi))) * (shl .i64 1 bi))))) + (shl .i64 1 bi))) - 1)) (shl .i64 1 bi))) ≤ 63 then (some (bi, wrap64 (Int.tdiv x0 (shl .i64 1 bi)), wrap64 (Int.tdiv (wrap64 ((wrap64 ((wrap64 (x1 - (wrap64 ((wrap64 (Int.tdiv x0 (shl .i64 1 bi))) * (shl .i64 1 bi))))) + (shl .i64 1 bi))) - 1)) (shl .i64 1 bi)), true)) else (impl_Pack.l0 k x0 x1 (wrap64 (bi + 1)))) else (impl_Pack.l0 k x0 x1 (wrap64 (bi + 1))))) else (none)) else (some (0, 0, 0, false))
def impl_Pack.f (k : Nat) (a0 : Int) (a1 : Int) : Option (Int × Int × Int × Bool) := (impl_BoundsOk.f a0 a1).bind fun bW => (if bW = true then (impl_Pack.l0 k a0 a1 0) else (some (0, 0, 0, false)))
theorem impl_Pack.mono_l : ∀ k, (∀ y0 y1 y2, LeO (impl_Pack.l0 k y0 y1 y2) (impl_Pack.l0 (k + 1) y0 y1 y2))
 | 0 => fun _ _ _ r h => by simp [impl_Pack.l0] at h
 | k + 1 => by
  have ih0 := impl_Pack.mono_l k
  ·intro y0 y1 y2
   unfold impl_Pack.l0
   repeat' first
   | (with_reducible exact ih0 _ _ _)
   | (with_reducible exact LeO.refl _)
   | (with_reducible exact LeO.none _)
   | (with_reducible refine LeO.ite ?_ ?_)
   | (with_reducible refine LeO.bind ?_ (fun _ => ?_))
   | exact ih0 _ _ _
   | exact LeO.none _
   | refine LeO.ite ?_ ?_
   | refine LeO.bind ?_ (fun _ => ?_)
theorem impl_Pack.mono : ∀ a0 a1 k, LeO (impl_Pack.f k a0 a1) (impl_Pack.f (k + 1) a0 a1) := by
 intro a0 a1 k; have ih0 := impl_Pack.mono_l k
 unfold impl_Pack.f
 repeat' first
   | (with_reducible exact ih0 _ _ _)
   | (with_reducible exact LeO.refl _)
   | (with_reducible exact LeO.none _)
   | (with_reducible refine LeO.ite ?_ ?_)
   | (with_reducible refine LeO.bind ?_ (fun _ => ?_))
   | exact ih0 _ _ _
   | exact LeO.none _
   | refine LeO.ite ?_ ?_
   | refine LeO.bind ?_ (fun _ => ?_)
set_option maxHeartbeats 8000000 in
set_option maxRecDepth 100000 in
theorem impl_Pack.calls (k : Nat) (a0 : Int) (a1 : Int) (r1 : Int) (r2 : Int) (r3 : Int) (r4 : Bool) (w : World) (h : impl_Pack.f k a0 a1 = some (r1, r2, r3, r4)) :
  Calls Try.prog 56 #[.int .i64 a0, .int .i64 a1] w fun e w' => e = .returned (.tuple #[.agg #[.int .i64 r1, .int .i64 r2, .int .i64 r3], .bool r4]) ∧ Below w.heap.size w w' := by
 have hu65 := Try.underlying65; have HB := Aside0.mk (Below.refl w.heap.size w); have H : ((impl_BoundsOk.f a0 a1).bind fun bW => (if bW = true then (impl_Pack.l0 k a0 a1 0) else (some (0, 0, 0, false)))) = some (r1, r2, r3, r4) := h; clear h; replace H := Option.bind_eq_some_iff.mp H; obtain ⟨bW, A30, H⟩ := H; replace H : (if bW = true then (impl_Pack.l0 k a0 a1 0) else (some (0, 0, 0, false))) = some (r1, r2, r3, r4) := H; have A3 := Aside0.mk A30; clear A30
 by_cases c4 : bW = true
 ·subst c4
  have H1 : (impl_Pack.l0 k a0 a1 0) = some (r1, r2, r3, r4) := by rw [if_pos rfl] at H; exact H
  clear H; have H := H1; clear H1; have H' := Aside0.mk H; clear H
  go_enter Try.func56, Try.ntmps56
  go_wp2_with (first | ((with_reducible refine gate_dst (N := 4) rfl ?_); refine bxe 4 #[.int .i64 0, .int .i64 0, .int .i64 0] 65 ?_; intro bX hg w5 hbox hb; have bj := hbox; have gs := nge HB hg; have gt := nge HB hg; replace HB := nbs HB hb; clear hb hbox hg) | ((with_reducible refine gate_callee (f := 49) rfl ?_); refine goesM (some 12) rfl rfl Try.func49 (by kernel_rfl) rfl #[.int .i64 a0, .int .i64 a1] rfl ?_; (with_reducible refine (impl_BoundsOk.calls a0 a1 true _ A3.out).mono ?_); rintro e w' ⟨rfl, ⟨nd, rfl⟩⟩; refine ⟨_, rfl, ?_⟩))
  go_loopg [15] k (fun kq gu w' => ∃ (bc : Int) (dg : Int) (dh : Int) (di : Int), gu = .int .i64 bc ∧ Aside0 (impl_Pack.l0 kq a0 a1 bc = some (r1, r2, r3, r4)) ∧ Aside0 (kq ≤ k) ∧ Aside0 (w'.heap[bX]? = some (.cells #[.int .i64 dg, .int .i64 dh, .int .i64 di] 65 (0, 0))) ∧ Aside0 (Below w.heap.size w w'))
  case atStart => exact ⟨(0), (0), (0), (0), (by first | rfl | (simp; done) | (simp [*]; done)), H', ⟨Nat.le_refl _⟩, ⟨nb bj⟩, ⟨nbe HB⟩⟩
  case round =>
   clear H'; try clear p2
   try clear c4
   try clear c5
   obtain ⟨bc, dg, dh, di, rfl, HA, dj, bj, HB⟩ := hrel
   cases gk with
   | zero => exact absurd HA.out (by simp [impl_Pack.l0])
   | succ k1 =>
    have H := HA.out; clear HA; simp only [impl_Pack.l0] at H
    by_cases c6 : bc < 7
    ·rw [if_pos c6] at H
     have c6b0 : decide (bc < 7) = true := decide_eq_true c6; clear c6
     by_cases c7 : 0 ≤ bc
     ·rw [if_pos c7] at H
      have c7b0 := eq_true c7; have c7b1 : decide (0 ≤ bc) = true := decide_eq_true c7; clear c7; obtain ⟨ba, dc⟩ : ∃ j_ : Int, (shl .i64 1 bc) = j_ := ⟨_, rfl⟩; replace H : (if (ba) = 0 then (none) else (if (wrap64 (Int.tdiv a0 (ba))) ≤ 63 then (if (wrap64 (Int.tdiv (wrap64 ((wrap64 ((wrap64 (a1 - (wrap64 ((wrap64 (Int.tdiv a0 (ba))) * (ba))))) + (ba))) - 1)) (ba))) ≤ 63 then (some (bc, wrap64 (Int.tdiv a0 (ba)), wrap64 (Int.tdiv (wrap64 ((wrap64 ((wrap64 (a1 - (wrap64 ((wrap64 (Int.tdiv a0 (ba))) * (ba))))) + (ba))) - 1)) (ba)), true)) else (impl_Pack.l0 k1 a0 a1 (wrap64 (bc + 1)))) else (impl_Pack.l0 k1 a0 a1 (wrap64 (bc + 1))))) = some (r1, r2, r3, r4) := by first | (rw [dc] at H; exact H) | (simp only [dc] at H ⊢; exact H)
      have ea : (IntKind.i64.wrap (1 * 2 ^ min bc.toNat 64)) = ba := dc; have eb : bc ≤ 64 → (IntKind.i64.wrap (1 * 2 ^ bc.toNat)) = ba := shl_small dc; have hA : (IntKind.i64.wrap (2 ^ min bc.toNat 64)) = ba := by have h_ := ea; rw [Int.one_mul] at h_; exact h_
      have hB : bc ≤ 64 → (IntKind.i64.wrap (2 ^ bc.toNat)) = ba := fun hle_ => by have h_ := eb hle_; rw [Int.one_mul] at h_; exact h_
      have hC : (wrap64 (1 * 2 ^ min bc.toNat 64)) = ba := (i64_w _).symm.trans ea; have hD : bc ≤ 64 → (wrap64 (1 * 2 ^ bc.toNat)) = ba := fun h_ => (i64_w _).symm.trans (eb h_)
      by_cases c9 : (ba) = 0
      ·rw [if_pos c9] at H
       exact absurd H (by simp)
      ·rw [if_neg c9] at H
       have c9b0 : ((ba) == 0) = false := beq_eq_false_iff_ne.mpr c9; have c9b1 : ((ba) != 0) = true := bne_iff_ne.mpr c9
       by_cases c10 : (wrap64 (Int.tdiv a0 (ba))) ≤ 63
       ·rw [if_pos c10] at H
        have c10b0 : decide ((wrap64 (Int.tdiv a0 (ba))) ≤ 63) = true := decide_eq_true c10; clear c10
        by_cases c11 : (wrap64 (Int.tdiv (wrap64 ((wrap64 ((wrap64 (a1 - (wrap64 ((wrap64 (Int.tdiv a0 (ba))) * (ba))))) + (ba))) - 1)) (ba))) ≤ 63
        ·rw [if_pos c11] at H
         have c11b0 : decide ((wrap64 (Int.tdiv (wrap64 ((wrap64 ((wrap64 (a1 - (wrap64 ((wrap64 (Int.tdiv a0 (ba))) * (ba))))) + (ba))) - 1)) (ba))) ≤ 63) = true := decide_eq_true c11; clear c11; simp only [Option.some.injEq, Prod.mk.injEq] at H; obtain ⟨rfl, rfl, rfl, rfl⟩ := H; obtain ⟨dy, dz, dA⟩ := c3e bj; obtain ⟨dB, dC, dD⟩ := z3_ bj; go_wp2; refine bodyPost_ret (results_ct rfl _ _ bX 65 #[.int .i64 bc, .int .i64 (wrap64 (Int.tdiv a0 (ba))), .int .i64 (wrap64 (Int.tdiv (wrap64 ((wrap64 ((wrap64 (a1 - (wrap64 ((wrap64 (Int.tdiv a0 (ba))) * (ba))))) + (ba))) - 1)) (ba)))] (0, 0) _ rfl (q3 bj) Try.underlying65 rfl (by kernel_rfl)) rfl ?_; exact ⟨by first | rfl | (simp [errW_none, errW_some] <;> rfl) | (simp only [← dc]; first | rfl | (simp [errW_none, errW_some] <;> rfl)) | (simp [*, errW_none, errW_some] <;> rfl), nbe HB⟩
        ·rw [if_neg c11] at H
         have c11b0 : decide ((wrap64 (Int.tdiv (wrap64 ((wrap64 ((wrap64 (a1 - (wrap64 ((wrap64 (Int.tdiv a0 (ba))) * (ba))))) + (ba))) - 1)) (ba))) ≤ 63) = false := decide_eq_false c11; clear c11; have H' := Aside0.mk H; clear H; go_wp2
         go_roundg k1
         case measure => have := dj.out; omega
         case rel => exact ⟨(wrap64 (bc + 1)), (dg), (dh), (di), (by first | rfl | (simp; done) | (simp [*]; done)), H', ⟨by have := dj.out; omega⟩, ⟨nb bj⟩, ⟨nbe HB⟩⟩
       ·rw [if_neg c10] at H
        have c10b0 : decide ((wrap64 (Int.tdiv a0 (ba))) ≤ 63) = false := decide_eq_false c10; clear c10; have H' := Aside0.mk H; clear H; go_wp2
        go_roundg k1
        case measure => have := dj.out; omega
        case rel => exact ⟨(wrap64 (bc + 1)), (dg), (dh), (di), (by first | rfl | (simp; done) | (simp [*]; done)), H', ⟨by have := dj.out; omega⟩, ⟨nb bj⟩, ⟨nbe HB⟩⟩
     ·rw [if_neg c7] at H
      exact absurd H (by simp)
    ·rw [if_neg c6] at H
     have c6b0 : decide (bc < 7) = false := decide_eq_false c6; clear c6; simp only [Option.some.injEq, Prod.mk.injEq] at H; obtain ⟨rfl, rfl, rfl, rfl⟩ := H; obtain ⟨gj, gl, gm⟩ := c3e bj; obtain ⟨gn, gp, gq⟩ := z3_ bj; go_wp2; refine bodyPost_ret (results_ct rfl _ _ bX 65 #[.int .i64 0, .int .i64 0, .int .i64 0] (0, 0) _ rfl (q3 bj) Try.underlying65 rfl (by kernel_rfl)) rfl ?_; exact ⟨er_, nbe HB⟩
 ·replace c4 := Bool.eq_false_iff.mpr c4
  subst c4; have H1 : (some (0, 0, 0, false)) = some (r1, r2, r3, r4) := by rw [if_neg (show ¬ (false = true) by decide)] at H; exact H
  clear H; have H := H1; clear H1; simp only [Option.some.injEq, Prod.mk.injEq] at H; obtain ⟨rfl, rfl, rfl, rfl⟩ := H
  go_enter Try.func56, Try.ntmps56
  go_wp2_with (first | ((with_reducible refine gate_dst (N := 4) rfl ?_); refine bxe 4 #[.int .i64 0, .int .i64 0, .int .i64 0] 65 ?_; intro bX hg dd hbox hb; have bj := hbox; have gs := nge HB hg; have gt := nge HB hg; replace HB := nbs HB hb; clear hb hbox hg) | ((with_reducible refine gate_callee (f := 49) rfl ?_); refine goesM (some 12) rfl rfl Try.func49 (by kernel_rfl) rfl #[.int .i64 a0, .int .i64 a1] rfl ?_; (with_reducible refine (impl_BoundsOk.calls a0 a1 false _ A3.out).mono ?_); rintro e w' ⟨rfl, ⟨nd, rfl⟩⟩; refine ⟨_, rfl, ?_⟩; (try (rw [drewN_self dd]; generalize hq_ : World.drewN dd _ = dd; replace bj : Aside0 (dd.heap[bX]? = some (.cells #[.int .i64 0, .int .i64 0, .int .i64 0] 65 (0, 0))) := ⟨by rw [← hq_]; exact (nb bj)⟩; replace HB : Aside0 (Below w.heap.size w dd) := ⟨by rw [← hq_]; exact (nbe HB)⟩; clear hq_)); obtain ⟨hE, hF, hG⟩ := c3e bj; obtain ⟨hH, hI, hJ⟩ := z3_ bj))
  refine bodyPost_ret (results_ct rfl _ _ bX 65 #[.int .i64 0, .int .i64 0, .int .i64 0] (0, 0) _ rfl (q3 bj) Try.underlying65 rfl (by kernel_rfl)) rfl ?_; exact ⟨er_, nbe HB⟩

/-! ### impl_Unpack: function 57 -/
def impl_Unpack.f (a0_0 : Int) (a0_1 : Int) (a0_2 : Int) : Option (Int × Int × Bool) := (impl_in.f a0_0 0 6).bind fun bY => (if bY = true then ((impl_in.f a0_1 0 63).bind fun bw => (if bw = true then ((impl_in.f a0_2 0 63).bind fun bk => (if bk = true then (if 0 ≤ a0_0 then (some (shl .i64 a0_1 a0_0, mn 4096 (shl .i64 (wrap64 (a0_1 + a0_2)) a0_0), true)) else (none)) else (some (0, 0, false)))) else (some (0, 0, false)))) else (some (0, 0, false)))
set_option maxHeartbeats 8000000 in
set_option maxRecDepth 100000 in
theorem impl_Unpack.calls (a0_0 : Int) (a0_1 : Int) (a0_2 : Int) (r1 : Int) (r2 : Int) (r3 : Bool) (w : World) (h : impl_Unpack.f a0_0 a0_1 a0_2 = some (r1, r2, r3)) :
  Calls Try.prog 57 #[.agg #[.int .i64 a0_0, .int .i64 a0_1, .int .i64 a0_2]] w fun e w' => e = .returned (.tuple #[.int .i64 r1, .int .i64 r2, .bool r3]) ∧ Below w.heap.size w w' := by
 have hu65 := Try.underlying65; have HB := Aside0.mk (Below.refl w.heap.size w); have H : ((impl_in.f a0_0 0 6).bind fun bY => (if bY = true then ((impl_in.f a0_1 0 63).bind fun bw => (if bw = true then ((impl_in.f a0_2 0 63).bind fun bk => (if bk = true then (if 0 ≤ a0_0 then (some (shl .i64 a0_1 a0_0, mn 4096 (shl .i64 (wrap64 (a0_1 + a0_2)) a0_0), true)) else (none)) else (some (0, 0, false)))) else (some (0, 0, false)))) else (some (0, 0, false)))) = some (r1, r2, r3) := h; clear h; replace H := Option.bind_eq_some_iff.mp H; obtain ⟨bY, A20, H⟩ := H; replace H : (if bY = true then ((impl_in.f a0_1 0 63).bind fun bw => (if bw = true then ((impl_in.f a0_2 0 63).bind fun bk => (if bk = true then (if 0 ≤ a0_0 then (some (shl .i64 a0_1 a0_0, mn 4096 (shl .i64 (wrap64 (a0_1 + a0_2)) a0_0), true)) else (none)) else (some (0, 0, false)))) else (some (0, 0, false)))) else (some (0, 0, false))) = some (r1, r2, r3) := H; have A2 := Aside0.mk A20; clear A20
 by_cases c3 : bY = true
 ·subst c3
  have H1 : ((impl_in.f a0_1 0 63).bind fun bw => (if bw = true then ((impl_in.f a0_2 0 63).bind fun bk => (if bk = true then (if 0 ≤ a0_0 then (some (shl .i64 a0_1 a0_0, mn 4096 (shl .i64 (wrap64 (a0_1 + a0_2)) a0_0), true)) else (none)) else (some (0, 0, false)))) else (some (0, 0, false)))) = some (r1, r2, r3) := by rw [if_pos rfl] at H; exact H
  clear H; have H := H1; clear H1; replace H := Option.bind_eq_some_iff.mp H; obtain ⟨bw, A40, H⟩ := H; replace H : (if bw = true then ((impl_in.f a0_2 0 63).bind fun bk => (if bk = true then (if 0 ≤ a0_0 then (some (shl .i64 a0_1 a0_0, mn 4096 (shl .i64 (wrap64 (a0_1 + a0_2)) a0_0), true)) else (none)) else (some (0, 0, false)))) else (some (0, 0, false))) = some (r1, r2, r3) := H; have A4 := Aside0.mk A40; clear A40
  by_cases c5 : bw = true
  ·subst c5
   have H1 : ((impl_in.f a0_2 0 63).bind fun bk => (if bk = true then (if 0 ≤ a0_0 then (some (shl .i64 a0_1 a0_0, mn 4096 (shl .i64 (wrap64 (a0_1 + a0_2)) a0_0), true)) else (none)) else (some (0, 0, false)))) = some (r1, r2, r3) := by rw [if_pos rfl] at H; exact H
   clear H; have H := H1; clear H1; replace H := Option.bind_eq_some_iff.mp H; obtain ⟨bk, A60, H⟩ := H; replace H : (if bk = true then (if 0 ≤ a0_0 then (some (shl .i64 a0_1 a0_0, mn 4096 (shl .i64 (wrap64 (a0_1 + a0_2)) a0_0), true)) else (none)) else (some (0, 0, false))) = some (r1, r2, r3) := H; have A6 := Aside0.mk A60; clear A60
   by_cases c7 : bk = true
   ·subst c7
    have H1 : (if 0 ≤ a0_0 then (some (shl .i64 a0_1 a0_0, mn 4096 (shl .i64 (wrap64 (a0_1 + a0_2)) a0_0), true)) else (none)) = some (r1, r2, r3) := by rw [if_pos rfl] at H; exact H
    clear H; have H := H1; clear H1
    by_cases c8 : 0 ≤ a0_0
    ·rw [if_pos c8] at H
     have c8b0 := eq_true c8; have c8b1 : decide (0 ≤ a0_0) = true := decide_eq_true c8; clear c8; obtain ⟨bI, bC⟩ : ∃ j_ : Int, (shl .i64 a0_1 a0_0) = j_ := ⟨_, rfl⟩; replace H : (some (bI, mn 4096 (shl .i64 (wrap64 (a0_1 + a0_2)) a0_0), true)) = some (r1, r2, r3) := by first | (rw [bC] at H; exact H) | (simp only [bC] at H ⊢; exact H)
     (try rw [bC] at A2); (try rw [bC] at A4); (try rw [bC] at A6); have gv : (IntKind.i64.wrap (a0_1 * 2 ^ min a0_0.toNat 64)) = bI := bC; have gw : a0_0 ≤ 64 → (IntKind.i64.wrap (a0_1 * 2 ^ a0_0.toNat)) = bI := shl_small bC; have hK : (wrap64 (a0_1 * 2 ^ min a0_0.toNat 64)) = bI := (i64_w _).symm.trans gv; have hL : a0_0 ≤ 64 → (wrap64 (a0_1 * 2 ^ a0_0.toNat)) = bI := fun h_ => (i64_w _).symm.trans (gw h_)
     have c10b0 := eq_true (of_decide_eq_true (by first | (with_reducible assumption) | assumption) : 0 ≤ a0_0); obtain ⟨bD, bE⟩ : ∃ j_ : Int, (shl .i64 (wrap64 (a0_1 + a0_2)) a0_0) = j_ := ⟨_, rfl⟩; replace H : (some (bI, mn 4096 (bD), true)) = some (r1, r2, r3) := by first | (rw [bE] at H; exact H) | (simp only [bE] at H ⊢; exact H)
     (try rw [bE] at A2); (try rw [bE] at A4); (try rw [bE] at A6); have gx : (IntKind.i64.wrap ((wrap64 (a0_1 + a0_2)) * 2 ^ min a0_0.toNat 64)) = bD := bE; have gy : a0_0 ≤ 64 → (IntKind.i64.wrap ((wrap64 (a0_1 + a0_2)) * 2 ^ a0_0.toNat)) = bD := shl_small bE; have hM : (wrap64 ((wrap64 (a0_1 + a0_2)) * 2 ^ min a0_0.toNat 64)) = bD := (i64_w _).symm.trans gx; have hN : a0_0 ≤ 64 → (wrap64 ((wrap64 (a0_1 + a0_2)) * 2 ^ a0_0.toNat)) = bD := fun h_ => (i64_w _).symm.trans (gy h_)
     obtain ⟨ec, bJ⟩ : ∃ j_ : Int, (mn 4096 (bD)) = j_ := ⟨_, rfl⟩; replace H : (some (bI, ec, true)) = some (r1, r2, r3) := by first | (rw [bJ] at H; exact H) | (simp only [bJ] at H ⊢; exact H)
     (try rw [bJ] at A2); (try rw [bJ] at A4); (try rw [bJ] at A6); have hO : (if (bD) < 4096 then (bD) else 4096) = ec := bJ; simp only [Option.some.injEq, Prod.mk.injEq] at H; obtain ⟨rfl, rfl, rfl⟩ := H
     go_enter Try.func57, Try.ntmps57
     go_wp2_with (first | ((with_reducible refine gate_dst (N := 1) rfl ?_); refine bxe 1 #[.int .i64 a0_0, .int .i64 a0_1, .int .i64 a0_2] 65 ?_; intro bp hg bZ hbox hb; have bb := hbox; have bq := nge HB hg; have br := nge HB hg; replace HB := nbs HB hb; clear hb hbox hg; obtain ⟨b0, b1, b2⟩ := c3e bb; obtain ⟨b3, b4, b5⟩ := z3_ bb) | (go_at_call 45; (with_reducible refine (impl_in.calls a0_0 0 6 true _ A2.out).mono ?_); rintro e w' ⟨rfl, ⟨nd, rfl⟩⟩; (try first | exact ⟨rfl, _, World.drewN_drewN _ _ _⟩ | exact ⟨rfl, _, Eq.trans (World.drewN_drewN _ _ _) (congrArg (World.drewN _) (Nat.add_assoc _ _ _))⟩)) | (go_at_call 45; (with_reducible refine (impl_in.calls a0_1 0 63 true _ A4.out).mono ?_); rintro e w' ⟨rfl, ⟨nd, rfl⟩⟩; (try first | exact ⟨rfl, _, World.drewN_drewN _ _ _⟩ | exact ⟨rfl, _, Eq.trans (World.drewN_drewN _ _ _) (congrArg (World.drewN _) (Nat.add_assoc _ _ _))⟩)) | (go_at_call 45; (with_reducible refine (impl_in.calls a0_2 0 63 true _ A6.out).mono ?_); rintro e w' ⟨rfl, ⟨nd, rfl⟩⟩; (try first | exact ⟨rfl, _, World.drewN_drewN _ _ _⟩ | exact ⟨rfl, _, Eq.trans (World.drewN_drewN _ _ _) (congrArg (World.drewN _) (Nat.add_assoc _ _ _))⟩)))
     repeat (go_quiet (first | ((with_reducible refine gate_dst (N := 1) rfl ?_); refine bxe 1 #[.int .i64 a0_0, .int .i64 a0_1, .int .i64 a0_2] 65 ?_; intro bp hg bZ hbox hb; have bb := hbox; have bq := nge HB hg; have br := nge HB hg; replace HB := nbs HB hb; clear hb hbox hg; obtain ⟨b0, b1, b2⟩ := c3e bb; obtain ⟨b3, b4, b5⟩ := z3_ bb) | (go_at_call 45; (with_reducible refine (impl_in.calls a0_0 0 6 true _ A2.out).mono ?_); rintro e w' ⟨rfl, ⟨nd, rfl⟩⟩; (try first | exact ⟨rfl, _, World.drewN_drewN _ _ _⟩ | exact ⟨rfl, _, Eq.trans (World.drewN_drewN _ _ _) (congrArg (World.drewN _) (Nat.add_assoc _ _ _))⟩)) | (go_at_call 45; (with_reducible refine (impl_in.calls a0_1 0 63 true _ A4.out).mono ?_); rintro e w' ⟨rfl, ⟨nd, rfl⟩⟩; (try first | exact ⟨rfl, _, World.drewN_drewN _ _ _⟩ | exact ⟨rfl, _, Eq.trans (World.drewN_drewN _ _ _) (congrArg (World.drewN _) (Nat.add_assoc _ _ _))⟩)) | (go_at_call 45; (with_reducible refine (impl_in.calls a0_2 0 63 true _ A6.out).mono ?_); rintro e w' ⟨rfl, ⟨nd, rfl⟩⟩; (try first | exact ⟨rfl, _, World.drewN_drewN _ _ _⟩ | exact ⟨rfl, _, Eq.trans (World.drewN_drewN _ _ _) (congrArg (World.drewN _) (Nat.add_assoc _ _ _))⟩))); try go_wp2_with (first | ((with_reducible refine gate_dst (N := 1) rfl ?_); refine bxe 1 #[.int .i64 a0_0, .int .i64 a0_1, .int .i64 a0_2] 65 ?_; intro bp hg bZ hbox hb; have bb := hbox; have bq := nge HB hg; have br := nge HB hg; replace HB := nbs HB hb; clear hb hbox hg; obtain ⟨b0, b1, b2⟩ := c3e bb; obtain ⟨b3, b4, b5⟩ := z3_ bb) | (go_at_call 45; (with_reducible refine (impl_in.calls a0_0 0 6 true _ A2.out).mono ?_); rintro e w' ⟨rfl, ⟨nd, rfl⟩⟩; (try first | exact ⟨rfl, _, World.drewN_drewN _ _ _⟩ | exact ⟨rfl, _, Eq.trans (World.drewN_drewN _ _ _) (congrArg (World.drewN _) (Nat.add_assoc _ _ _))⟩)) | (go_at_call 45; (with_reducible refine (impl_in.calls a0_1 0 63 true _ A4.out).mono ?_); rintro e w' ⟨rfl, ⟨nd, rfl⟩⟩; (try first | exact ⟨rfl, _, World.drewN_drewN _ _ _⟩ | exact ⟨rfl, _, Eq.trans (World.drewN_drewN _ _ _) (congrArg (World.drewN _) (Nat.add_assoc _ _ _))⟩)) | (go_at_call 45; (with_reducible refine (impl_in.calls a0_2 0 63 true _ A6.out).mono ?_); rintro e w' ⟨rfl, ⟨nd, rfl⟩⟩; (try first | exact ⟨rfl, _, World.drewN_drewN _ _ _⟩ | exact ⟨rfl, _, Eq.trans (World.drewN_drewN _ _ _) (congrArg (World.drewN _) (Nat.add_assoc _ _ _))⟩))))
     go_ret3
     exact ⟨by first | rfl | (simp [errW_none, errW_some] <;> rfl) | (simp only [← bC, ← bE, ← bJ]; first | rfl | (simp [errW_none, errW_some] <;> rfl)) | (simp [*, errW_none, errW_some] <;> rfl), nbe HB⟩
    ·rw [if_neg c8] at H
     exact absurd H (by simp)
   ·replace c7 := Bool.eq_false_iff.mpr c7
    subst c7; have H1 : (some (0, 0, false)) = some (r1, r2, r3) := by rw [if_neg (show ¬ (false = true) by decide)] at H; exact H
    clear H; have H := H1; clear H1; simp only [Option.some.injEq, Prod.mk.injEq] at H; obtain ⟨rfl, rfl, rfl⟩ := H
    go_enter Try.func57, Try.ntmps57
    go_wp2_with (first | ((with_reducible refine gate_dst (N := 1) rfl ?_); refine bxe 1 #[.int .i64 a0_0, .int .i64 a0_1, .int .i64 a0_2] 65 ?_; intro bp hg de hbox hb; have bb := hbox; have bq := nge HB hg; have br := nge HB hg; replace HB := nbs HB hb; clear hb hbox hg; obtain ⟨dk, dl, dm⟩ := c3e bb; obtain ⟨dn, dp, dq⟩ := z3_ bb) | (go_at_call 45; (with_reducible refine (impl_in.calls a0_0 0 6 true _ A2.out).mono ?_); rintro e w' ⟨rfl, ⟨nd, rfl⟩⟩; (try first | exact ⟨rfl, _, World.drewN_drewN _ _ _⟩ | exact ⟨rfl, _, Eq.trans (World.drewN_drewN _ _ _) (congrArg (World.drewN _) (Nat.add_assoc _ _ _))⟩)) | (go_at_call 45; (with_reducible refine (impl_in.calls a0_1 0 63 true _ A4.out).mono ?_); rintro e w' ⟨rfl, ⟨nd, rfl⟩⟩; (try first | exact ⟨rfl, _, World.drewN_drewN _ _ _⟩ | exact ⟨rfl, _, Eq.trans (World.drewN_drewN _ _ _) (congrArg (World.drewN _) (Nat.add_assoc _ _ _))⟩)) | (go_at_call 45; (with_reducible refine (impl_in.calls a0_2 0 63 false _ A6.out).mono ?_); rintro e w' ⟨rfl, ⟨nd, rfl⟩⟩; (try first | exact ⟨rfl, _, World.drewN_drewN _ _ _⟩ | exact ⟨rfl, _, Eq.trans (World.drewN_drewN _ _ _) (congrArg (World.drewN _) (Nat.add_assoc _ _ _))⟩)))
    repeat (go_quiet (first | ((with_reducible refine gate_dst (N := 1) rfl ?_); refine bxe 1 #[.int .i64 a0_0, .int .i64 a0_1, .int .i64 a0_2] 65 ?_; intro bp hg de hbox hb; have bb := hbox; have bq := nge HB hg; have br := nge HB hg; replace HB := nbs HB hb; clear hb hbox hg; obtain ⟨dk, dl, dm⟩ := c3e bb; obtain ⟨dn, dp, dq⟩ := z3_ bb) | (go_at_call 45; (with_reducible refine (impl_in.calls a0_0 0 6 true _ A2.out).mono ?_); rintro e w' ⟨rfl, ⟨nd, rfl⟩⟩; (try first | exact ⟨rfl, _, World.drewN_drewN _ _ _⟩ | exact ⟨rfl, _, Eq.trans (World.drewN_drewN _ _ _) (congrArg (World.drewN _) (Nat.add_assoc _ _ _))⟩)) | (go_at_call 45; (with_reducible refine (impl_in.calls a0_1 0 63 true _ A4.out).mono ?_); rintro e w' ⟨rfl, ⟨nd, rfl⟩⟩; (try first | exact ⟨rfl, _, World.drewN_drewN _ _ _⟩ | exact ⟨rfl, _, Eq.trans (World.drewN_drewN _ _ _) (congrArg (World.drewN _) (Nat.add_assoc _ _ _))⟩)) | (go_at_call 45; (with_reducible refine (impl_in.calls a0_2 0 63 false _ A6.out).mono ?_); rintro e w' ⟨rfl, ⟨nd, rfl⟩⟩; (try first | exact ⟨rfl, _, World.drewN_drewN _ _ _⟩ | exact ⟨rfl, _, Eq.trans (World.drewN_drewN _ _ _) (congrArg (World.drewN _) (Nat.add_assoc _ _ _))⟩))); try go_wp2_with (first | ((with_reducible refine gate_dst (N := 1) rfl ?_); refine bxe 1 #[.int .i64 a0_0, .int .i64 a0_1, .int .i64 a0_2] 65 ?_; intro bp hg de hbox hb; have bb := hbox; have bq := nge HB hg; have br := nge HB hg; replace HB := nbs HB hb; clear hb hbox hg; obtain ⟨dk, dl, dm⟩ := c3e bb; obtain ⟨dn, dp, dq⟩ := z3_ bb) | (go_at_call 45; (with_reducible refine (impl_in.calls a0_0 0 6 true _ A2.out).mono ?_); rintro e w' ⟨rfl, ⟨nd, rfl⟩⟩; (try first | exact ⟨rfl, _, World.drewN_drewN _ _ _⟩ | exact ⟨rfl, _, Eq.trans (World.drewN_drewN _ _ _) (congrArg (World.drewN _) (Nat.add_assoc _ _ _))⟩)) | (go_at_call 45; (with_reducible refine (impl_in.calls a0_1 0 63 true _ A4.out).mono ?_); rintro e w' ⟨rfl, ⟨nd, rfl⟩⟩; (try first | exact ⟨rfl, _, World.drewN_drewN _ _ _⟩ | exact ⟨rfl, _, Eq.trans (World.drewN_drewN _ _ _) (congrArg (World.drewN _) (Nat.add_assoc _ _ _))⟩)) | (go_at_call 45; (with_reducible refine (impl_in.calls a0_2 0 63 false _ A6.out).mono ?_); rintro e w' ⟨rfl, ⟨nd, rfl⟩⟩; (try first | exact ⟨rfl, _, World.drewN_drewN _ _ _⟩ | exact ⟨rfl, _, Eq.trans (World.drewN_drewN _ _ _) (congrArg (World.drewN _) (Nat.add_assoc _ _ _))⟩))))
    go_ret3
    exact ⟨er_, nbe HB⟩
  ·replace c5 := Bool.eq_false_iff.mpr c5
   subst c5; have H1 : (some (0, 0, false)) = some (r1, r2, r3) := by rw [if_neg (show ¬ (false = true) by decide)] at H; exact H
   clear H; have H := H1; clear H1; simp only [Option.some.injEq, Prod.mk.injEq] at H; obtain ⟨rfl, rfl, rfl⟩ := H
   go_enter Try.func57, Try.ntmps57
   go_wp2_with (first | ((with_reducible refine gate_dst (N := 1) rfl ?_); refine bxe 1 #[.int .i64 a0_0, .int .i64 a0_1, .int .i64 a0_2] 65 ?_; intro bp hg dF hbox hb; have bb := hbox; have bq := nge HB hg; have br := nge HB hg; replace HB := nbs HB hb; clear hb hbox hg; obtain ⟨ed, ee, ef⟩ := c3e bb; obtain ⟨eg, eh, ei⟩ := z3_ bb) | (go_at_call 45; (with_reducible refine (impl_in.calls a0_0 0 6 true _ A2.out).mono ?_); rintro e w' ⟨rfl, ⟨nd, rfl⟩⟩; (try first | exact ⟨rfl, _, World.drewN_drewN _ _ _⟩ | exact ⟨rfl, _, Eq.trans (World.drewN_drewN _ _ _) (congrArg (World.drewN _) (Nat.add_assoc _ _ _))⟩)) | (go_at_call 45; (with_reducible refine (impl_in.calls a0_1 0 63 false _ A4.out).mono ?_); rintro e w' ⟨rfl, ⟨nd, rfl⟩⟩; (try first | exact ⟨rfl, _, World.drewN_drewN _ _ _⟩ | exact ⟨rfl, _, Eq.trans (World.drewN_drewN _ _ _) (congrArg (World.drewN _) (Nat.add_assoc _ _ _))⟩)))
   repeat (go_quiet (first | ((with_reducible refine gate_dst (N := 1) rfl ?_); refine bxe 1 #[.int .i64 a0_0, .int .i64 a0_1, .int .i64 a0_2] 65 ?_; intro bp hg dF hbox hb; have bb := hbox; have bq := nge HB hg; have br := nge HB hg; replace HB := nbs HB hb; clear hb hbox hg; obtain ⟨ed, ee, ef⟩ := c3e bb; obtain ⟨eg, eh, ei⟩ := z3_ bb) | (go_at_call 45; (with_reducible refine (impl_in.calls a0_0 0 6 true _ A2.out).mono ?_); rintro e w' ⟨rfl, ⟨nd, rfl⟩⟩; (try first | exact ⟨rfl, _, World.drewN_drewN _ _ _⟩ | exact ⟨rfl, _, Eq.trans (World.drewN_drewN _ _ _) (congrArg (World.drewN _) (Nat.add_assoc _ _ _))⟩)) | (go_at_call 45; (with_reducible refine (impl_in.calls a0_1 0 63 false _ A4.out).mono ?_); rintro e w' ⟨rfl, ⟨nd, rfl⟩⟩; (try first | exact ⟨rfl, _, World.drewN_drewN _ _ _⟩ | exact ⟨rfl, _, Eq.trans (World.drewN_drewN _ _ _) (congrArg (World.drewN _) (Nat.add_assoc _ _ _))⟩))); try go_wp2_with (first | ((with_reducible refine gate_dst (N := 1) rfl ?_); refine bxe 1 #[.int .i64 a0_0, .int .i64 a0_1, .int .i64 a0_2] 65 ?_; intro bp hg dF hbox hb; have bb := hbox; have bq := nge HB hg; have br := nge HB hg; replace HB := nbs HB hb; clear hb hbox hg; obtain ⟨ed, ee, ef⟩ := c3e bb; obtain ⟨eg, eh, ei⟩ := z3_ bb) | (go_at_call 45; (with_reducible refine (impl_in.calls a0_0 0 6 true _ A2.out).mono ?_); rintro e w' ⟨rfl, ⟨nd, rfl⟩⟩; (try first | exact ⟨rfl, _, World.drewN_drewN _ _ _⟩ | exact ⟨rfl, _, Eq.trans (World.drewN_drewN _ _ _) (congrArg (World.drewN _) (Nat.add_assoc _ _ _))⟩)) | (go_at_call 45; (with_reducible refine (impl_in.calls a0_1 0 63 false _ A4.out).mono ?_); rintro e w' ⟨rfl, ⟨nd, rfl⟩⟩; (try first | exact ⟨rfl, _, World.drewN_drewN _ _ _⟩ | exact ⟨rfl, _, Eq.trans (World.drewN_drewN _ _ _) (congrArg (World.drewN _) (Nat.add_assoc _ _ _))⟩))))
   go_ret3
   exact ⟨er_, nbe HB⟩
 ·replace c3 := Bool.eq_false_iff.mpr c3
  subst c3; have H1 : (some (0, 0, false)) = some (r1, r2, r3) := by rw [if_neg (show ¬ (false = true) by decide)] at H; exact H
  clear H; have H := H1; clear H1; simp only [Option.some.injEq, Prod.mk.injEq] at H; obtain ⟨rfl, rfl, rfl⟩ := H
  go_enter Try.func57, Try.ntmps57
  go_wp2_with (first | ((with_reducible refine gate_dst (N := 1) rfl ?_); refine bxe 1 #[.int .i64 a0_0, .int .i64 a0_1, .int .i64 a0_2] 65 ?_; intro bp hg ej hbox hb; have bb := hbox; have bq := nge HB hg; have br := nge HB hg; replace HB := nbs HB hb; clear hb hbox hg; obtain ⟨ek, el, em⟩ := c3e bb; obtain ⟨en, eo, ep⟩ := z3_ bb) | (go_at_call 45; (with_reducible refine (impl_in.calls a0_0 0 6 false _ A2.out).mono ?_); rintro e w' ⟨rfl, ⟨nd, rfl⟩⟩; (try first | exact ⟨rfl, _, World.drewN_drewN _ _ _⟩ | exact ⟨rfl, _, Eq.trans (World.drewN_drewN _ _ _) (congrArg (World.drewN _) (Nat.add_assoc _ _ _))⟩)))
  repeat (go_quiet (first | ((with_reducible refine gate_dst (N := 1) rfl ?_); refine bxe 1 #[.int .i64 a0_0, .int .i64 a0_1, .int .i64 a0_2] 65 ?_; intro bp hg ej hbox hb; have bb := hbox; have bq := nge HB hg; have br := nge HB hg; replace HB := nbs HB hb; clear hb hbox hg; obtain ⟨ek, el, em⟩ := c3e bb; obtain ⟨en, eo, ep⟩ := z3_ bb) | (go_at_call 45; (with_reducible refine (impl_in.calls a0_0 0 6 false _ A2.out).mono ?_); rintro e w' ⟨rfl, ⟨nd, rfl⟩⟩; (try first | exact ⟨rfl, _, World.drewN_drewN _ _ _⟩ | exact ⟨rfl, _, Eq.trans (World.drewN_drewN _ _ _) (congrArg (World.drewN _) (Nat.add_assoc _ _ _))⟩))); try go_wp2_with (first | ((with_reducible refine gate_dst (N := 1) rfl ?_); refine bxe 1 #[.int .i64 a0_0, .int .i64 a0_1, .int .i64 a0_2] 65 ?_; intro bp hg ej hbox hb; have bb := hbox; have bq := nge HB hg; have br := nge HB hg; replace HB := nbs HB hb; clear hb hbox hg; obtain ⟨ek, el, em⟩ := c3e bb; obtain ⟨en, eo, ep⟩ := z3_ bb) | (go_at_call 45; (with_reducible refine (impl_in.calls a0_0 0 6 false _ A2.out).mono ?_); rintro e w' ⟨rfl, ⟨nd, rfl⟩⟩; (try first | exact ⟨rfl, _, World.drewN_drewN _ _ _⟩ | exact ⟨rfl, _, Eq.trans (World.drewN_drewN _ _ _) (congrArg (World.drewN _) (Nat.add_assoc _ _ _))⟩))))
  go_ret3
  exact ⟨er_, nbe HB⟩

/-! ### impl_Wide: function 50 -/
def impl_Wide.f (k : Nat) (a0 : Int) (a1 : Int) : Option (Int × Int) := (impl_BoundsOk.f a0 a1).bind fun b6 => (if b6 = true then ((impl_Pack.f k a0 a1).bind fun bd => (if bd.2.2.2 = true then ((impl_Unpack.f bd.1 bd.2.1 bd.2.2.1).bind fun bh => (some (bh.1, bh.2.1))) else (some (0, 4096)))) else (some (0, 0)))
theorem impl_Wide.mono : ∀ a0 a1 k, LeO (impl_Wide.f k a0 a1) (impl_Wide.f (k + 1) a0 a1) := by
 intro a0 a1 k
 unfold impl_Wide.f
 repeat' first
   | (with_reducible exact impl_Pack.mono _ _ _)
   | (with_reducible exact LeO.refl _)
   | (with_reducible exact LeO.none _)
   | (with_reducible refine LeO.ite ?_ ?_)
   | (with_reducible refine LeO.bind ?_ (fun _ => ?_))
   | exact impl_Pack.mono _ _ _
   | exact LeO.none _
   | refine LeO.ite ?_ ?_
   | refine LeO.bind ?_ (fun _ => ?_)
set_option maxHeartbeats 8000000 in
set_option maxRecDepth 100000 in
theorem impl_Wide.calls (k : Nat) (a0 : Int) (a1 : Int) (r1 : Int) (r2 : Int) (w : World) (h : impl_Wide.f k a0 a1 = some (r1, r2)) :
  Calls Try.prog 50 #[.int .i64 a0, .int .i64 a1] w fun e w' => e = .returned (.tuple #[.int .i64 r1, .int .i64 r2]) ∧ Below w.heap.size w w' := by
 have hu65 := Try.underlying65; have HB := Aside0.mk (Below.refl w.heap.size w); have H : ((impl_BoundsOk.f a0 a1).bind fun b6 => (if b6 = true then ((impl_Pack.f k a0 a1).bind fun bd => (if bd.2.2.2 = true then ((impl_Unpack.f bd.1 bd.2.1 bd.2.2.1).bind fun bh => (some (bh.1, bh.2.1))) else (some (0, 4096)))) else (some (0, 0)))) = some (r1, r2) := h; clear h; replace H := Option.bind_eq_some_iff.mp H; obtain ⟨b6, A30, H⟩ := H; replace H : (if b6 = true then ((impl_Pack.f k a0 a1).bind fun bd => (if bd.2.2.2 = true then ((impl_Unpack.f bd.1 bd.2.1 bd.2.2.1).bind fun bh => (some (bh.1, bh.2.1))) else (some (0, 4096)))) else (some (0, 0))) = some (r1, r2) := H; have A3 := Aside0.mk A30; clear A30
 by_cases c4 : b6 = true
 ·subst c4
  have H1 : ((impl_Pack.f k a0 a1).bind fun bd => (if bd.2.2.2 = true then ((impl_Unpack.f bd.1 bd.2.1 bd.2.2.1).bind fun bh => (some (bh.1, bh.2.1))) else (some (0, 4096)))) = some (r1, r2) := by rw [if_pos rfl] at H; exact H
  clear H; have H := H1; clear H1; replace H := Option.bind_eq_some_iff.mp H; obtain ⟨⟨bK, bL, bM, er⟩, A50, H⟩ := H; replace H : (if er = true then ((impl_Unpack.f bK bL bM).bind fun bh => (some (bh.1, bh.2.1))) else (some (0, 4096))) = some (r1, r2) := H; have A5 := Aside0.mk A50; clear A50
  by_cases c6 : er = true
  ·subst c6
   have H1 : ((impl_Unpack.f bK bL bM).bind fun bh => (some (bh.1, bh.2.1))) = some (r1, r2) := by rw [if_pos rfl] at H; exact H
   clear H; have H := H1; clear H1; replace H := Option.bind_eq_some_iff.mp H; obtain ⟨⟨es, et, gz⟩, A70, H⟩ := H; replace H : (some (es, et)) = some (r1, r2) := H; have A7 := Aside0.mk A70; clear A70; simp only [Option.some.injEq, Prod.mk.injEq] at H; obtain ⟨rfl, rfl⟩ := H
   go_enter Try.func50, Try.ntmps50
   go_wp2_with (first | ((with_reducible refine gate_callee (f := 49) rfl ?_); refine goesM (some 13) rfl rfl Try.func49 (by kernel_rfl) rfl #[.int .i64 a0, .int .i64 a1] rfl ?_; (with_reducible refine (impl_BoundsOk.calls a0 a1 true _ A3.out).mono ?_); rintro e w' ⟨rfl, ⟨nd, rfl⟩⟩; refine ⟨_, rfl, ?_⟩) | ((with_reducible refine gate_callee (f := 56) rfl ?_); refine goesM (some 18) rfl rfl Try.func56 (by kernel_rfl) rfl #[.int .i64 a0, .int .i64 a1] rfl ?_; (with_reducible refine (impl_Pack.calls k a0 a1 bK bL bM true _ A5.out).mono ?_); rintro e w8 ⟨rfl, hb⟩; refine ⟨_, rfl, ?_⟩; replace HB := nbs HB hb; (try clear hb)) | ((with_reducible refine gate_dst (N := 6) rfl ?_); refine bxe 6 #[.int .i64 0, .int .i64 0, .int .i64 0] 65 ?_; intro eu hg w9 hbox hb; have bN := hbox; have gA := nge HB hg; have gB := nge HB hg; replace HB := nbs HB hb; clear hb hbox hg; obtain ⟨bO, bP, bQ⟩ := c3e bN; obtain ⟨bR, bS, bT⟩ := z3_ bN) | ((with_reducible refine gate_callee (f := 57) rfl ?_); refine goesM (some 25) rfl rfl Try.func57 (by kernel_rfl) rfl #[.agg #[.int .i64 bK, .int .i64 bL, .int .i64 bM]] rfl ?_; (with_reducible refine (impl_Unpack.calls bK bL bM es et gz _ A7.out).mono ?_); rintro e dx ⟨rfl, hb⟩; refine ⟨_, rfl, ?_⟩; replace bN := Aside0.mk (blk_below (g := eu) (o := .cells #[.int .i64 bK, .int .i64 bL, .int .i64 bM] 65 (0, 0)) (q3 bN) hb); replace HB := nbs HB hb; (try clear hb)))
   go_ret2
   exact ⟨er_, nbe HB⟩
  ·replace c6 := Bool.eq_false_iff.mpr c6
   subst c6; have H1 : (some (0, 4096)) = some (r1, r2) := by rw [if_neg (show ¬ (false = true) by decide)] at H; exact H
   clear H; have H := H1; clear H1; simp only [Option.some.injEq, Prod.mk.injEq] at H; obtain ⟨rfl, rfl⟩ := H
   go_enter Try.func50, Try.ntmps50
   go_wp2_with (first | ((with_reducible refine gate_callee (f := 49) rfl ?_); refine goesM (some 13) rfl rfl Try.func49 (by kernel_rfl) rfl #[.int .i64 a0, .int .i64 a1] rfl ?_; (with_reducible refine (impl_BoundsOk.calls a0 a1 true _ A3.out).mono ?_); rintro e w' ⟨rfl, ⟨nd, rfl⟩⟩; refine ⟨_, rfl, ?_⟩) | ((with_reducible refine gate_callee (f := 56) rfl ?_); refine goesM (some 18) rfl rfl Try.func56 (by kernel_rfl) rfl #[.int .i64 a0, .int .i64 a1] rfl ?_; (with_reducible refine (impl_Pack.calls k a0 a1 bK bL bM false _ A5.out).mono ?_); rintro e hQ ⟨rfl, hb⟩; refine ⟨_, rfl, ?_⟩; replace HB := nbs HB hb; (try clear hb)) | ((with_reducible refine gate_dst (N := 6) rfl ?_); refine bxe 6 #[.int .i64 0, .int .i64 0, .int .i64 0] 65 ?_; intro eu hg bZ hbox hb; have bN := hbox; have gA := nge HB hg; have gB := nge HB hg; replace HB := nbs HB hb; clear hb hbox hg; obtain ⟨b0, b1, b2⟩ := c3e bN; obtain ⟨b3, b4, b5⟩ := z3_ bN))
   go_ret2
   exact ⟨er_, nbe HB⟩
 ·replace c4 := Bool.eq_false_iff.mpr c4
  subst c4; have H1 : (some (0, 0)) = some (r1, r2) := by rw [if_neg (show ¬ (false = true) by decide)] at H; exact H
  clear H; have H := H1; clear H1; simp only [Option.some.injEq, Prod.mk.injEq] at H; obtain ⟨rfl, rfl⟩ := H
  go_enter Try.func50, Try.ntmps50
  go_wp2_with (first | ((with_reducible refine gate_callee (f := 49) rfl ?_); refine goesM (some 13) rfl rfl Try.func49 (by kernel_rfl) rfl #[.int .i64 a0, .int .i64 a1] rfl ?_; (with_reducible refine (impl_BoundsOk.calls a0 a1 false _ A3.out).mono ?_); rintro e w' ⟨rfl, ⟨nd, rfl⟩⟩; refine ⟨_, rfl, ?_⟩))
  go_ret2
  exact ⟨er_, nbe HB⟩

/-! ### impl_Exact: function 55 -/
def impl_Exact.f (k : Nat) (a0 : Int) (a1 : Int) : Option (Bool) := (impl_Wide.f k a0 a1).bind fun df => ((impl_BoundsOk.f a0 a1).bind fun bF => (if bF = true then (if df.1 = a0 then (some (df.2 == a1)) else (some false)) else (some false)))
theorem impl_Exact.mono : ∀ a0 a1 k, LeO (impl_Exact.f k a0 a1) (impl_Exact.f (k + 1) a0 a1) := by
 intro a0 a1 k
 unfold impl_Exact.f
 repeat' first
   | (with_reducible exact impl_Wide.mono _ _ _)
   | (with_reducible exact LeO.refl _)
   | (with_reducible exact LeO.none _)
   | (with_reducible refine LeO.ite ?_ ?_)
   | (with_reducible refine LeO.bind ?_ (fun _ => ?_))
   | exact impl_Wide.mono _ _ _
   | exact LeO.none _
   | refine LeO.ite ?_ ?_
   | refine LeO.bind ?_ (fun _ => ?_)
set_option maxHeartbeats 8000000 in
set_option maxRecDepth 100000 in
theorem impl_Exact.calls (k : Nat) (a0 : Int) (a1 : Int) (r : Bool) (w : World) (h : impl_Exact.f k a0 a1 = some r) :
  Calls Try.prog 55 #[.int .i64 a0, .int .i64 a1] w fun e w' => e = .returned (.bool r) ∧ Below w.heap.size w w' := by
 have HB := Aside0.mk (Below.refl w.heap.size w); have H : ((impl_Wide.f k a0 a1).bind fun df => ((impl_BoundsOk.f a0 a1).bind fun bF => (if bF = true then (if df.1 = a0 then (some (df.2 == a1)) else (some false)) else (some false)))) = some r := h; clear h; replace H := Option.bind_eq_some_iff.mp H; obtain ⟨⟨bs, b7⟩, A30, H⟩ := H; replace H : ((impl_BoundsOk.f a0 a1).bind fun bF => (if bF = true then (if bs = a0 then (some (b7 == a1)) else (some false)) else (some false))) = some r := H; have A3 := Aside0.mk A30; clear A30; replace H := Option.bind_eq_some_iff.mp H; obtain ⟨bF, A40, H⟩ := H; replace H : (if bF = true then (if bs = a0 then (some (b7 == a1)) else (some false)) else (some false)) = some r := H; have A4 := Aside0.mk A40; clear A40
 by_cases c5 : bF = true
 ·subst c5
  have H1 : (if bs = a0 then (some (b7 == a1)) else (some false)) = some r := by rw [if_pos rfl] at H; exact H
  clear H; have H := H1; clear H1
  by_cases c6 : bs = a0
  ·rw [if_pos c6] at H
   have c6b0 : (bs == a0) = true := beq_iff_eq.mpr c6; have c6b1 : (bs != a0) = false := bne_eq_false_iff_eq.mpr c6; clear c6; obtain rfl := Option.some.inj H
   go_enter Try.func55, Try.ntmps55
   go_wp2_with (first | ((with_reducible refine gate_callee (f := 50) rfl ?_); refine goesM (some 10) rfl rfl Try.func50 (by kernel_rfl) rfl #[.int .i64 a0, .int .i64 a1] rfl ?_; (with_reducible refine (impl_Wide.calls k a0 a1 bs b7 _ A3.out).mono ?_); rintro e w7 ⟨rfl, hb⟩; refine ⟨_, rfl, ?_⟩; replace HB := nbs HB hb; (try clear hb)) | ((with_reducible refine gate_callee (f := 49) rfl ?_); refine goesM (some 15) rfl rfl Try.func49 (by kernel_rfl) rfl #[.int .i64 a0, .int .i64 a1] rfl ?_; (with_reducible refine (impl_BoundsOk.calls a0 a1 true _ A4.out).mono ?_); rintro e w' ⟨rfl, ⟨nd, rfl⟩⟩; refine ⟨_, rfl, ?_⟩))
   go_ret
   exact ⟨er_, nbe HB⟩
  ·rw [if_neg c6] at H
   have c6b0 : (bs == a0) = false := beq_eq_false_iff_ne.mpr c6; have c6b1 : (bs != a0) = true := bne_iff_ne.mpr c6; obtain rfl := Option.some.inj H
   go_enter Try.func55, Try.ntmps55
   go_wp2_with (first | ((with_reducible refine gate_callee (f := 50) rfl ?_); refine goesM (some 10) rfl rfl Try.func50 (by kernel_rfl) rfl #[.int .i64 a0, .int .i64 a1] rfl ?_; (with_reducible refine (impl_Wide.calls k a0 a1 bs b7 _ A3.out).mono ?_); rintro e w8 ⟨rfl, hb⟩; refine ⟨_, rfl, ?_⟩; replace HB := nbs HB hb; (try clear hb)) | ((with_reducible refine gate_callee (f := 49) rfl ?_); refine goesM (some 15) rfl rfl Try.func49 (by kernel_rfl) rfl #[.int .i64 a0, .int .i64 a1] rfl ?_; (with_reducible refine (impl_BoundsOk.calls a0 a1 true _ A4.out).mono ?_); rintro e w' ⟨rfl, ⟨nd, rfl⟩⟩; refine ⟨_, rfl, ?_⟩))
   go_ret
   exact ⟨er_, nbe HB⟩
 ·replace c5 := Bool.eq_false_iff.mpr c5
  subst c5; have H1 : (some false) = some r := by rw [if_neg (show ¬ (false = true) by decide)] at H; exact H
  clear H; have H := H1; clear H1; obtain rfl := Option.some.inj H
  go_enter Try.func55, Try.ntmps55
  go_wp2_with (first | ((with_reducible refine gate_callee (f := 50) rfl ?_); refine goesM (some 10) rfl rfl Try.func50 (by kernel_rfl) rfl #[.int .i64 a0, .int .i64 a1] rfl ?_; (with_reducible refine (impl_Wide.calls k a0 a1 bs b7 _ A3.out).mono ?_); rintro e w9 ⟨rfl, hb⟩; refine ⟨_, rfl, ?_⟩; replace HB := nbs HB hb; (try clear hb)) | ((with_reducible refine gate_callee (f := 49) rfl ?_); refine goesM (some 15) rfl rfl Try.func49 (by kernel_rfl) rfl #[.int .i64 a0, .int .i64 a1] rfl ?_; (with_reducible refine (impl_BoundsOk.calls a0 a1 false _ A4.out).mono ?_); rintro e w' ⟨rfl, ⟨nd, rfl⟩⟩; refine ⟨_, rfl, ?_⟩))
  go_ret
  exact ⟨er_, nbe HB⟩

/-! ### impl_KeyOk: function 46 -/
def impl_KeyOk.f (k : Nat) (a0_0 : Int) (a0_1 : Int) (a0_2 : Int) (a0_3 : Int) : Option (Bool) := (impl_Exact.f k a0_0 a0_1).bind fun b8 => (if b8 = true then ((impl_in.f a0_2 0 63).bind fun bx => (if bx = true then ((impl_in.f a0_3 0 7).bind fun bl => (some bl)) else (some false))) else (some false))
theorem impl_KeyOk.mono : ∀ a0 a1 a2 a3 k, LeO (impl_KeyOk.f k a0 a1 a2 a3) (impl_KeyOk.f (k + 1) a0 a1 a2 a3) := by
 intro a0 a1 a2 a3 k
 unfold impl_KeyOk.f
 repeat' first
   | (with_reducible exact impl_Exact.mono _ _ _)
   | (with_reducible exact LeO.refl _)
   | (with_reducible exact LeO.none _)
   | (with_reducible refine LeO.ite ?_ ?_)
   | (with_reducible refine LeO.bind ?_ (fun _ => ?_))
   | exact impl_Exact.mono _ _ _
   | exact LeO.none _
   | refine LeO.ite ?_ ?_
   | refine LeO.bind ?_ (fun _ => ?_)
set_option maxHeartbeats 8000000 in
set_option maxRecDepth 100000 in
theorem impl_KeyOk.calls (k : Nat) (a0_0 : Int) (a0_1 : Int) (a0_2 : Int) (a0_3 : Int) (r : Bool) (w : World) (h : impl_KeyOk.f k a0_0 a0_1 a0_2 a0_3 = some r) :
  Calls Try.prog 46 #[.agg #[.int .i64 a0_0, .int .i64 a0_1, .int .i64 a0_2, .int .i64 a0_3]] w fun e w' => e = .returned (.bool r) ∧ Below w.heap.size w w' := by
 have hu28 := Try.underlying28; have HB := Aside0.mk (Below.refl w.heap.size w); have H : ((impl_Exact.f k a0_0 a0_1).bind fun b8 => (if b8 = true then ((impl_in.f a0_2 0 63).bind fun bx => (if bx = true then ((impl_in.f a0_3 0 7).bind fun bl => (some bl)) else (some false))) else (some false))) = some r := h; clear h; replace H := Option.bind_eq_some_iff.mp H; obtain ⟨b8, A20, H⟩ := H; replace H : (if b8 = true then ((impl_in.f a0_2 0 63).bind fun bx => (if bx = true then ((impl_in.f a0_3 0 7).bind fun bl => (some bl)) else (some false))) else (some false)) = some r := H; have A2 := Aside0.mk A20; clear A20
 by_cases c3 : b8 = true
 ·subst c3
  have H1 : ((impl_in.f a0_2 0 63).bind fun bx => (if bx = true then ((impl_in.f a0_3 0 7).bind fun bl => (some bl)) else (some false))) = some r := by rw [if_pos rfl] at H; exact H
  clear H; have H := H1; clear H1; replace H := Option.bind_eq_some_iff.mp H; obtain ⟨bx, A40, H⟩ := H; replace H : (if bx = true then ((impl_in.f a0_3 0 7).bind fun bl => (some bl)) else (some false)) = some r := H; have A4 := Aside0.mk A40; clear A40
  by_cases c5 : bx = true
  ·subst c5
   have H1 : ((impl_in.f a0_3 0 7).bind fun bl => (some bl)) = some r := by rw [if_pos rfl] at H; exact H
   clear H; have H := H1; clear H1; replace H := Option.bind_eq_some_iff.mp H; obtain ⟨bl, A60, H⟩ := H; replace H : (some bl) = some r := H; have A6 := Aside0.mk A60; clear A60; obtain rfl := Option.some.inj H
   go_enter Try.func46, Try.ntmps46
   go_wp2_with (first | ((with_reducible refine gate_dst (N := 1) rfl ?_); refine bxe 1 #[.int .i64 a0_0, .int .i64 a0_1, .int .i64 a0_2, .int .i64 a0_3] 28 ?_; intro ev hg w7 hbox hb; have bf := hbox; have ew := nge HB hg; have ex := nge HB hg; replace HB := nbs HB hb; clear hb hbox hg; obtain ⟨dY, dZ, d0, d1⟩ := c4e bf; obtain ⟨d2, d3, d4, d5⟩ := z4_ bf) | ((with_reducible refine gate_callee (f := 55) rfl ?_); refine goesM (some 7) rfl rfl Try.func55 (by kernel_rfl) rfl #[.int .i64 a0_0, .int .i64 a0_1] rfl ?_; (with_reducible refine (impl_Exact.calls k a0_0 a0_1 true _ A2.out).mono ?_); rintro e w9 ⟨rfl, hb⟩; refine ⟨_, rfl, ?_⟩; replace bf := nblk bf hb; replace HB := nbs HB hb; (try clear hb); obtain ⟨bO, bP, bQ, da⟩ := c4e bf; obtain ⟨bR, bS, bT, db⟩ := z4_ bf) | (go_at_call 45; (with_reducible refine (impl_in.calls a0_2 0 63 true _ A4.out).mono ?_); rintro e w' ⟨rfl, ⟨nd, rfl⟩⟩) | (go_at_call 45; (with_reducible refine (impl_in.calls a0_3 0 7 bl _ A6.out).mono ?_); rintro e w' ⟨rfl, ⟨nd, rfl⟩⟩))
   go_ret
   exact ⟨er_, nbe HB⟩
  ·replace c5 := Bool.eq_false_iff.mpr c5
   subst c5; have H1 : (some false) = some r := by rw [if_neg (show ¬ (false = true) by decide)] at H; exact H
   clear H; have H := H1; clear H1; obtain rfl := Option.some.inj H
   go_enter Try.func46, Try.ntmps46
   go_wp2_with (first | ((with_reducible refine gate_dst (N := 1) rfl ?_); refine bxe 1 #[.int .i64 a0_0, .int .i64 a0_1, .int .i64 a0_2, .int .i64 a0_3] 28 ?_; intro ev hg dx hbox hb; have bf := hbox; have ew := nge HB hg; have ex := nge HB hg; replace HB := nbs HB hb; clear hb hbox hg; obtain ⟨dy, dz, dA, d8⟩ := c4e bf; obtain ⟨dB, dC, dD, d9⟩ := z4_ bf) | ((with_reducible refine gate_callee (f := 55) rfl ?_); refine goesM (some 7) rfl rfl Try.func55 (by kernel_rfl) rfl #[.int .i64 a0_0, .int .i64 a0_1] rfl ?_; (with_reducible refine (impl_Exact.calls k a0_0 a0_1 true _ A2.out).mono ?_); rintro e bZ ⟨rfl, hb⟩; refine ⟨_, rfl, ?_⟩; replace bf := nblk bf hb; replace HB := nbs HB hb; (try clear hb); obtain ⟨b0, b1, b2, ey⟩ := c4e bf; obtain ⟨b3, b4, b5, ez⟩ := z4_ bf) | (go_at_call 45; (with_reducible refine (impl_in.calls a0_2 0 63 false _ A4.out).mono ?_); rintro e w' ⟨rfl, ⟨nd, rfl⟩⟩))
   go_ret
   exact ⟨er_, nbe HB⟩
 ·replace c3 := Bool.eq_false_iff.mpr c3
  subst c3; have H1 : (some false) = some r := by rw [if_neg (show ¬ (false = true) by decide)] at H; exact H
  clear H; have H := H1; clear H1; obtain rfl := Option.some.inj H
  go_enter Try.func46, Try.ntmps46
  go_wp2_with (first | ((with_reducible refine gate_dst (N := 1) rfl ?_); refine bxe 1 #[.int .i64 a0_0, .int .i64 a0_1, .int .i64 a0_2, .int .i64 a0_3] 28 ?_; intro ev hg de hbox hb; have bf := hbox; have ew := nge HB hg; have ex := nge HB hg; replace HB := nbs HB hb; clear hb hbox hg; obtain ⟨dk, dl, dm, gC⟩ := c4e bf; obtain ⟨dn, dp, dq, gD⟩ := z4_ bf) | ((with_reducible refine gate_callee (f := 55) rfl ?_); refine goesM (some 7) rfl rfl Try.func55 (by kernel_rfl) rfl #[.int .i64 a0_0, .int .i64 a0_1] rfl ?_; (with_reducible refine (impl_Exact.calls k a0_0 a0_1 false _ A2.out).mono ?_); rintro e dF ⟨rfl, hb⟩; refine ⟨_, rfl, ?_⟩; replace bf := nblk bf hb; replace HB := nbs HB hb; (try clear hb)))
  go_ret
  exact ⟨er_, nbe HB⟩

/-! ### impl_WordOk: function 31 -/
def impl_WordOk.f (k : Nat) (a0_0 : Int) (a0_1 : Bool) (a0_2 : Int) (a0_3 : Int) (a0_4 : Int) (a0_5 : Int) : Option (Bool) := if a0_1 = true then ((impl_in.f a0_0 0 65535).bind fun bG => (if bG = true then ((impl_KeyOk.f k a0_2 a0_3 a0_4 a0_5).bind fun bo => (some bo)) else (some false))) else ((impl_in.f a0_0 0 65535).bind fun bH => (if bH = true then (some (a0_2 == 0 && (a0_3 == 0 && (a0_4 == 0 && (a0_5 == 0))))) else (some false)))
theorem impl_WordOk.mono : ∀ a0 a1 a2 a3 a4 a5 k, LeO (impl_WordOk.f k a0 a1 a2 a3 a4 a5) (impl_WordOk.f (k + 1) a0 a1 a2 a3 a4 a5) := by
 intro a0 a1 a2 a3 a4 a5 k
 unfold impl_WordOk.f
 repeat' first
   | (with_reducible exact impl_KeyOk.mono _ _ _ _ _)
   | (with_reducible exact LeO.refl _)
   | (with_reducible exact LeO.none _)
   | (with_reducible refine LeO.ite ?_ ?_)
   | (with_reducible refine LeO.bind ?_ (fun _ => ?_))
   | exact impl_KeyOk.mono _ _ _ _ _
   | exact LeO.none _
   | refine LeO.ite ?_ ?_
   | refine LeO.bind ?_ (fun _ => ?_)
set_option maxHeartbeats 8000000 in
set_option maxRecDepth 100000 in
theorem impl_WordOk.calls (k : Nat) (a0_0 : Int) (a0_1 : Bool) (a0_2 : Int) (a0_3 : Int) (a0_4 : Int) (a0_5 : Int) (r : Bool) (w : World) (h : impl_WordOk.f k a0_0 a0_1 a0_2 a0_3 a0_4 a0_5 = some r) :
  Calls Try.prog 31 #[.agg #[.int .i64 a0_0, .bool a0_1, .int .i64 a0_2, .int .i64 a0_3, .int .i64 a0_4, .int .i64 a0_5]] w fun e w' => e = .returned (.bool r) ∧ Below w.heap.size w w' := by
 have hu30 := Try.underlying30; have hu28 := Try.underlying28; have HB := Aside0.mk (Below.refl w.heap.size w); have H : (if a0_1 = true then ((impl_in.f a0_0 0 65535).bind fun bG => (if bG = true then ((impl_KeyOk.f k a0_2 a0_3 a0_4 a0_5).bind fun bo => (some bo)) else (some false))) else ((impl_in.f a0_0 0 65535).bind fun bH => (if bH = true then (some (a0_2 == 0 && (a0_3 == 0 && (a0_4 == 0 && (a0_5 == 0))))) else (some false)))) = some r := h; clear h
 by_cases c2 : a0_1 = true
 ·subst c2
  have H1 : ((impl_in.f a0_0 0 65535).bind fun bG => (if bG = true then ((impl_KeyOk.f k a0_2 a0_3 a0_4 a0_5).bind fun bo => (some bo)) else (some false))) = some r := by rw [if_pos rfl] at H; exact H
  clear H; have H := H1; clear H1; replace H := Option.bind_eq_some_iff.mp H; obtain ⟨bG, A30, H⟩ := H; replace H : (if bG = true then ((impl_KeyOk.f k a0_2 a0_3 a0_4 a0_5).bind fun bo => (some bo)) else (some false)) = some r := H; have A3 := Aside0.mk A30; clear A30
  by_cases c4 : bG = true
  ·subst c4
   have H1 : ((impl_KeyOk.f k a0_2 a0_3 a0_4 a0_5).bind fun bo => (some bo)) = some r := by rw [if_pos rfl] at H; exact H
   clear H; have H := H1; clear H1; replace H := Option.bind_eq_some_iff.mp H; obtain ⟨bo, A50, H⟩ := H; replace H : (some bo) = some r := H; have A5 := Aside0.mk A50; clear A50; obtain rfl := Option.some.inj H
   go_enter Try.func31, Try.ntmps31
   go_wp2_with (first | ((with_reducible refine gate_dst (N := 1) rfl ?_); refine bxe 1 #[.int .i64 a0_0, .bool true, .int .i64 a0_2, .int .i64 a0_3, .int .i64 a0_4, .int .i64 a0_5] 30 ?_; intro dG hg w6 hbox hb; have bm := hbox; have dH := nge HB hg; have dI := nge HB hg; replace HB := nbs HB hb; clear hb hbox hg; obtain ⟨dN, dO, dP, dQ, eL, hR⟩ := c6e bm; obtain ⟨dR, dS, dT, dU, eM, hS⟩ := z6_ bm) | ((with_reducible refine gate_callee (f := 45) rfl ?_); refine goesM (some 7) rfl rfl Try.func45 (by kernel_rfl) rfl #[.int .i64 a0_0, .int .i64 0, .int .i64 65535] rfl ?_; (with_reducible refine (impl_in.calls a0_0 0 65535 true _ A3.out).mono ?_); rintro e w' ⟨rfl, ⟨nd, rfl⟩⟩; refine ⟨_, rfl, ?_⟩) | (go_at_call 46; (with_reducible refine (impl_KeyOk.calls k a0_2 a0_3 a0_4 a0_5 bo _ A5.out).mono ?_); rintro e w8 ⟨rfl, hb⟩; replace bm := nblk bm hb; replace HB := nbs HB hb; (try clear hb)))
   go_ret
   exact ⟨er_, nbe HB⟩
  ·replace c4 := Bool.eq_false_iff.mpr c4
   subst c4; have H1 : (some false) = some r := by rw [if_neg (show ¬ (false = true) by decide)] at H; exact H
   clear H; have H := H1; clear H1; obtain rfl := Option.some.inj H
   go_enter Try.func31, Try.ntmps31
   go_wp2_with (first | ((with_reducible refine gate_dst (N := 1) rfl ?_); refine bxe 1 #[.int .i64 a0_0, .bool true, .int .i64 a0_2, .int .i64 a0_3, .int .i64 a0_4, .int .i64 a0_5] 30 ?_; intro dG hg w9 hbox hb; have bm := hbox; have dH := nge HB hg; have dI := nge HB hg; replace HB := nbs HB hb; clear hb hbox hg; obtain ⟨bO, bP, bQ, da, dr, d6⟩ := c6e bm; obtain ⟨bR, bS, bT, db, ds, d7⟩ := z6_ bm) | ((with_reducible refine gate_callee (f := 45) rfl ?_); refine goesM (some 7) rfl rfl Try.func45 (by kernel_rfl) rfl #[.int .i64 a0_0, .int .i64 0, .int .i64 65535] rfl ?_; (with_reducible refine (impl_in.calls a0_0 0 65535 false _ A3.out).mono ?_); rintro e w' ⟨rfl, ⟨nd, rfl⟩⟩; refine ⟨_, rfl, ?_⟩))
   go_ret
   exact ⟨er_, nbe HB⟩
 ·replace c2 := Bool.eq_false_iff.mpr c2
  subst c2; have H1 : ((impl_in.f a0_0 0 65535).bind fun bH => (if bH = true then (some (a0_2 == 0 && (a0_3 == 0 && (a0_4 == 0 && (a0_5 == 0))))) else (some false))) = some r := by rw [if_neg (show ¬ (false = true) by decide)] at H; exact H
  clear H; have H := H1; clear H1; replace H := Option.bind_eq_some_iff.mp H; obtain ⟨bH, A110, H⟩ := H; replace H : (if bH = true then (some (a0_2 == 0 && (a0_3 == 0 && (a0_4 == 0 && (a0_5 == 0))))) else (some false)) = some r := H; have A11 := Aside0.mk A110; clear A110
  by_cases c12 : bH = true
  ·subst c12
   have H1 : (some (a0_2 == 0 && (a0_3 == 0 && (a0_4 == 0 && (a0_5 == 0))))) = some r := by rw [if_pos rfl] at H; exact H
   clear H; have H := H1; clear H1; obtain rfl := Option.some.inj H
   go_enter Try.func31, Try.ntmps31
   go_wp2_with (first | ((with_reducible refine gate_dst (N := 1) rfl ?_); refine bxe 1 #[.int .i64 a0_0, .bool false, .int .i64 a0_2, .int .i64 a0_3, .int .i64 a0_4, .int .i64 a0_5] 30 ?_; intro dG hg bZ hbox hb; have bm := hbox; have dH := nge HB hg; have dI := nge HB hg; replace HB := nbs HB hb; clear hb hbox hg; obtain ⟨b0, b1, b2, ey, gE, gF⟩ := c6e bm; obtain ⟨b3, b4, b5, ez, gG, gH⟩ := z6_ bm) | ((with_reducible refine gate_callee (f := 45) rfl ?_); refine goesM (some 15) rfl rfl Try.func45 (by kernel_rfl) rfl #[.int .i64 a0_0, .int .i64 0, .int .i64 65535] rfl ?_; (with_reducible refine (impl_in.calls a0_0 0 65535 true _ A11.out).mono ?_); rintro e w' ⟨rfl, ⟨nd, rfl⟩⟩; refine ⟨_, rfl, ?_⟩))
   go_ret
   exact ⟨er_, nbe HB⟩
  ·replace c12 := Bool.eq_false_iff.mpr c12
   subst c12; have H1 : (some false) = some r := by rw [if_neg (show ¬ (false = true) by decide)] at H; exact H
   clear H; have H := H1; clear H1; obtain rfl := Option.some.inj H
   go_enter Try.func31, Try.ntmps31
   go_wp2_with (first | ((with_reducible refine gate_dst (N := 1) rfl ?_); refine bxe 1 #[.int .i64 a0_0, .bool false, .int .i64 a0_2, .int .i64 a0_3, .int .i64 a0_4, .int .i64 a0_5] 30 ?_; intro dG hg de hbox hb; have bm := hbox; have dH := nge HB hg; have dI := nge HB hg; replace HB := nbs HB hb; clear hb hbox hg; obtain ⟨dk, dl, dm, gC, hT, hU⟩ := c6e bm; obtain ⟨dn, dp, dq, gD, hV, hW⟩ := z6_ bm) | ((with_reducible refine gate_callee (f := 45) rfl ?_); refine goesM (some 15) rfl rfl Try.func45 (by kernel_rfl) rfl #[.int .i64 a0_0, .int .i64 0, .int .i64 65535] rfl ?_; (with_reducible refine (impl_in.calls a0_0 0 65535 false _ A11.out).mono ?_); rintro e w' ⟨rfl, ⟨nd, rfl⟩⟩; refine ⟨_, rfl, ?_⟩))
   go_ret
   exact ⟨er_, nbe HB⟩

/-! ### impl_open: function 30 -/
def impl_open.f (k : Nat) (a0_0 : Int) (a0_1 : Bool) (a0_2 : Int) (a0_3 : Int) (a0_4 : Int) (a0_5 : Int) : Option (Bool) := (impl_WordOk.f k a0_0 a0_1 a0_2 a0_3 a0_4 a0_5).bind fun b9 => (if b9 = true then (if a0_1 = true then (some (a0_5 == 0)) else (some false)) else (some false))
theorem impl_open.mono : ∀ a0 a1 a2 a3 a4 a5 k, LeO (impl_open.f k a0 a1 a2 a3 a4 a5) (impl_open.f (k + 1) a0 a1 a2 a3 a4 a5) := by
 intro a0 a1 a2 a3 a4 a5 k
 unfold impl_open.f
 repeat' first
   | (with_reducible exact impl_WordOk.mono _ _ _ _ _ _ _)
   | (with_reducible exact LeO.refl _)
   | (with_reducible exact LeO.none _)
   | (with_reducible refine LeO.ite ?_ ?_)
   | (with_reducible refine LeO.bind ?_ (fun _ => ?_))
   | exact impl_WordOk.mono _ _ _ _ _ _ _
   | exact LeO.none _
   | refine LeO.ite ?_ ?_
   | refine LeO.bind ?_ (fun _ => ?_)
set_option maxHeartbeats 8000000 in
set_option maxRecDepth 100000 in
theorem impl_open.calls (k : Nat) (a0_0 : Int) (a0_1 : Bool) (a0_2 : Int) (a0_3 : Int) (a0_4 : Int) (a0_5 : Int) (r : Bool) (w : World) (h : impl_open.f k a0_0 a0_1 a0_2 a0_3 a0_4 a0_5 = some r) :
  Calls Try.prog 30 #[.agg #[.int .i64 a0_0, .bool a0_1, .int .i64 a0_2, .int .i64 a0_3, .int .i64 a0_4, .int .i64 a0_5]] w fun e w' => e = .returned (.bool r) ∧ Below w.heap.size w w' := by
 have hu30 := Try.underlying30; have HB := Aside0.mk (Below.refl w.heap.size w); have H : ((impl_WordOk.f k a0_0 a0_1 a0_2 a0_3 a0_4 a0_5).bind fun b9 => (if b9 = true then (if a0_1 = true then (some (a0_5 == 0)) else (some false)) else (some false))) = some r := h; clear h; replace H := Option.bind_eq_some_iff.mp H; obtain ⟨b9, A20, H⟩ := H; replace H : (if b9 = true then (if a0_1 = true then (some (a0_5 == 0)) else (some false)) else (some false)) = some r := H; have A2 := Aside0.mk A20; clear A20
 by_cases c3 : b9 = true
 ·subst c3
  have H1 : (if a0_1 = true then (some (a0_5 == 0)) else (some false)) = some r := by rw [if_pos rfl] at H; exact H
  clear H; have H := H1; clear H1
  by_cases c4 : a0_1 = true
  ·subst c4
   have H1 : (some (a0_5 == 0)) = some r := by rw [if_pos rfl] at H; exact H
   clear H; have H := H1; clear H1; obtain rfl := Option.some.inj H
   go_enter Try.func30, Try.ntmps30
   go_wp2_with (first | ((with_reducible refine gate_dst (N := 1) rfl ?_); refine bxe 1 #[.int .i64 a0_0, .bool true, .int .i64 a0_2, .int .i64 a0_3, .int .i64 a0_4, .int .i64 a0_5] 30 ?_; intro eA hg w5 hbox hb; have bg := hbox; have eB := nge HB hg; have eC := nge HB hg; replace HB := nbs HB hb; clear hb hbox hg; obtain ⟨hX, hY, hZ, h0, h1, h2⟩ := c6e bg; obtain ⟨h3, h4, h5, h6, h7, h8⟩ := z6_ bg) | ((with_reducible refine gate_callee (f := 31) rfl ?_); refine goesM (some 4) rfl rfl Try.func31 (by kernel_rfl) rfl #[.agg #[.int .i64 a0_0, .bool true, .int .i64 a0_2, .int .i64 a0_3, .int .i64 a0_4, .int .i64 a0_5]] rfl ?_; (with_reducible refine (impl_WordOk.calls k a0_0 true a0_2 a0_3 a0_4 a0_5 true _ A2.out).mono ?_); rintro e w7 ⟨rfl, hb⟩; refine ⟨_, rfl, ?_⟩; replace bg := nblk bg hb; replace HB := nbs HB hb; (try clear hb); obtain ⟨dY, dZ, d0, d1, ga, gb⟩ := c6e bg; obtain ⟨d2, d3, d4, d5, gc, gd⟩ := z6_ bg))
   go_ret
   exact ⟨er_, nbe HB⟩
  ·replace c4 := Bool.eq_false_iff.mpr c4
   subst c4; have H1 : (some false) = some r := by rw [if_neg (show ¬ (false = true) by decide)] at H; exact H
   clear H; have H := H1; clear H1; obtain rfl := Option.some.inj H
   go_enter Try.func30, Try.ntmps30
   go_wp2_with (first | ((with_reducible refine gate_dst (N := 1) rfl ?_); refine bxe 1 #[.int .i64 a0_0, .bool false, .int .i64 a0_2, .int .i64 a0_3, .int .i64 a0_4, .int .i64 a0_5] 30 ?_; intro eA hg w9 hbox hb; have bg := hbox; have eB := nge HB hg; have eC := nge HB hg; replace HB := nbs HB hb; clear hb hbox hg; obtain ⟨bO, bP, bQ, da, dr, d6⟩ := c6e bg; obtain ⟨bR, bS, bT, db, ds, d7⟩ := z6_ bg) | ((with_reducible refine gate_callee (f := 31) rfl ?_); refine goesM (some 4) rfl rfl Try.func31 (by kernel_rfl) rfl #[.agg #[.int .i64 a0_0, .bool false, .int .i64 a0_2, .int .i64 a0_3, .int .i64 a0_4, .int .i64 a0_5]] rfl ?_; (with_reducible refine (impl_WordOk.calls k a0_0 false a0_2 a0_3 a0_4 a0_5 true _ A2.out).mono ?_); rintro e dx ⟨rfl, hb⟩; refine ⟨_, rfl, ?_⟩; replace bg := nblk bg hb; replace HB := nbs HB hb; (try clear hb); obtain ⟨dy, dz, dA, d8, gf, gg⟩ := c6e bg; obtain ⟨dB, dC, dD, d9, gh, gi⟩ := z6_ bg))
   go_ret
   exact ⟨er_, nbe HB⟩
 ·replace c3 := Bool.eq_false_iff.mpr c3
  subst c3; have H1 : (some false) = some r := by rw [if_neg (show ¬ (false = true) by decide)] at H; exact H
  clear H; have H := H1; clear H1; obtain rfl := Option.some.inj H
  go_enter Try.func30, Try.ntmps30
  go_wp2_with (first | ((with_reducible refine gate_dst (N := 1) rfl ?_); refine bxe 1 #[.int .i64 a0_0, .bool a0_1, .int .i64 a0_2, .int .i64 a0_3, .int .i64 a0_4, .int .i64 a0_5] 30 ?_; intro eA hg bZ hbox hb; have bg := hbox; have eB := nge HB hg; have eC := nge HB hg; replace HB := nbs HB hb; clear hb hbox hg; obtain ⟨b0, b1, b2, ey, gE, gF⟩ := c6e bg; obtain ⟨b3, b4, b5, ez, gG, gH⟩ := z6_ bg) | ((with_reducible refine gate_callee (f := 31) rfl ?_); refine goesM (some 4) rfl rfl Try.func31 (by kernel_rfl) rfl #[.agg #[.int .i64 a0_0, .bool a0_1, .int .i64 a0_2, .int .i64 a0_3, .int .i64 a0_4, .int .i64 a0_5]] rfl ?_; (with_reducible refine (impl_WordOk.calls k a0_0 a0_1 a0_2 a0_3 a0_4 a0_5 false _ A2.out).mono ?_); rintro e de ⟨rfl, hb⟩; refine ⟨_, rfl, ?_⟩; replace bg := nblk bg hb; replace HB := nbs HB hb; (try clear hb)))
  go_ret
  exact ⟨er_, nbe HB⟩

end Go.Proofs.Ytgfaicenpoahoaa.PFnExactWork
