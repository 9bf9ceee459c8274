-- Written by a program of this session (wip/patch.py turns a copy of the kit's print): the functions that the law reaches, and their walks.
import Derived.Test.YtbpalnplcgmjjaaPFnExactWritex0
import Derived.Test.YtbpalnplcgmjjaaPFnExactWritex5
import Derived.Test.YtbpalnplcgmjjaaCFnExactWrite
namespace Go.Proofs.Ytbpalnplcgmjjaa.PFnExactWrite
open Go.RowKit Go.Proofs.YtbpalnplcgmjjaaW.PrintWords Go.Proofs.YtbpalnplcgmjjaaW.PrintLast Go.Proofs.YtbpalnplcgmjjaaW.PrintMore Go.Proofs.YtbpalnplcgmjjaaW.Mine
attribute [local go_sem] max2_int min2_int max_two min_two max_three min_three max_four min_four   -- for this text's walks alone
set_option linter.unusedVariables false
set_option linter.unusedSimpArgs false

/-! ### impl_Try: function 33 -/
def impl_Try.j0 : Nat → Int → Int → Bool → Int → Bool → Int → Int → Int → Int → Option (Int)
  | 0, _, _, _, _, _, _, _, _, _ => none
  | k + 1, x1, x2, x7, el, em, di, dj, dk, dl => if x7 = true then (some 1) else (if dl = 0 then (if (Go.bits .andNot .i64 x2 dk) = 0 then (if x1 < di then (some 4) else (if x1 ≥ dj then (some 4) else (some 0))) else (some 3)) else (some 2))
def impl_Try.f (k : Nat) (a0_0 : Int) (a0_1 : Bool) (a0_2 : Int) (a0_3 : Int) (a0_4 : Int) (a0_5 : Int) (a1 : Int) (a2 : Int) : Option (Int) := if a0_1 = true then ((impl_WordOk.f k a0_0 a0_1 a0_2 a0_3 a0_4 a0_5).bind fun bm => (impl_Try.j0 k a1 a2 (!bm) a0_0 a0_1 a0_2 a0_3 a0_4 a0_5)) else (impl_Try.j0 k a1 a2 true a0_0 a0_1 a0_2 a0_3 a0_4 a0_5)
theorem impl_Try.mono_l : ∀ k, (∀ y0 y1 y2 y3 y4 y5 y6 y7 y8, LeO (impl_Try.j0 k y0 y1 y2 y3 y4 y5 y6 y7 y8) (impl_Try.j0 (k + 1) y0 y1 y2 y3 y4 y5 y6 y7 y8))
  | 0 => fun _ _ _ _ _ _ _ _ _ r h => by simp [impl_Try.j0] at h
  | k + 1 => by
    have ih0 := impl_Try.mono_l k
    · intro y0 y1 y2 y3 y4 y5 y6 y7 y8
      unfold impl_Try.j0
      repeat' first
      | (with_reducible exact ih0 _ _ _ _ _ _ _ _ _)
      | (with_reducible exact impl_WordOk.mono _ _ _ _ _ _ _)
      | (with_reducible exact LeO.refl _)
      | (with_reducible exact LeO.none _)
      | (with_reducible refine LeO.ite ?_ ?_)
      | (with_reducible refine LeO.bind ?_ (fun _ => ?_))
      | exact ih0 _ _ _ _ _ _ _ _ _
      | exact impl_WordOk.mono _ _ _ _ _ _ _
      | exact LeO.none _
      | refine LeO.ite ?_ ?_
      | refine LeO.bind ?_ (fun _ => ?_)
theorem impl_Try.mono : ∀ a0 a1 a2 a3 a4 a5 a6 a7 k, LeO (impl_Try.f k a0 a1 a2 a3 a4 a5 a6 a7) (impl_Try.f (k + 1) a0 a1 a2 a3 a4 a5 a6 a7) := by
  intro a0 a1 a2 a3 a4 a5 a6 a7 k; have ih0 := impl_Try.mono_l k
  unfold impl_Try.f
  repeat' first
      | (with_reducible exact ih0 _ _ _ _ _ _ _ _ _)
      | (with_reducible exact impl_WordOk.mono _ _ _ _ _ _ _)
      | (with_reducible exact LeO.refl _)
      | (with_reducible exact LeO.none _)
      | (with_reducible refine LeO.ite ?_ ?_)
      | (with_reducible refine LeO.bind ?_ (fun _ => ?_))
      | exact ih0 _ _ _ _ _ _ _ _ _
      | exact impl_WordOk.mono _ _ _ _ _ _ _
      | exact LeO.none _
      | refine LeO.ite ?_ ?_
      | refine LeO.bind ?_ (fun _ => ?_)
set_option maxHeartbeats 8000000 in
set_option maxRecDepth 100000 in
theorem impl_Try.calls (k : Nat) (a0_0 : Int) (a0_1 : Bool) (a0_2 : Int) (a0_3 : Int) (a0_4 : Int) (a0_5 : Int) (a1 : Int) (a2 : Int) (r : Int) (w : World) (h : impl_Try.f k a0_0 a0_1 a0_2 a0_3 a0_4 a0_5 a1 a2 = some r) :
    Calls Try.prog 33 #[.agg #[.int .i64 a0_0, .bool a0_1, .int .i64 a0_2, .int .i64 a0_3, .int .i64 a0_4, .int .i64 a0_5], .int .i64 a1, .int .i64 a2] w fun e w' => e = .returned (.int .i64 r) ∧ Below w.heap.size w w' := by
  have hu39 := Try.underlying39; have HB := Aside0.mk (Below.refl w.heap.size w); have H : (if a0_1 = true then ((impl_WordOk.f k a0_0 a0_1 a0_2 a0_3 a0_4 a0_5).bind fun bm => (impl_Try.j0 k a1 a2 (!bm) a0_0 a0_1 a0_2 a0_3 a0_4 a0_5)) else (impl_Try.j0 k a1 a2 true a0_0 a0_1 a0_2 a0_3 a0_4 a0_5)) = some r := h; clear h; have bI := Aside0.mk H; clear H
  go_enter Try.func33, Try.ntmps33
  go_upto_region 1 with (first | ((with_reducible refine gate_dst (N := 3) rfl ?_); refine bxe 3 #[.int .i64 a0_0, .bool a0_1, .int .i64 a0_2, .int .i64 a0_3, .int .i64 a0_4, .int .i64 a0_5] 39 ?_; intro dm hg w5 hbox hb; have bc := hbox; have en := nge HB hg; have eo := nge HB hg; replace HB := nbs HB hb; clear hb hbox hg))
  (try simp only [Act.put, List.setIfInBounds_toArray, List.set_cons_zero, List.set_cons_succ])
  go_cut [7] (fun v7 wc => ∃ (kq : Nat) (bD : Bool), v7 = .bool bD ∧ Aside0 (impl_Try.j0 kq a1 a2 bD a0_0 a0_1 a0_2 a0_3 a0_4 a0_5 = some r) ∧ Aside0 (kq ≤ k) ∧ Aside0 (wc.heap[dm]? = some (.cells #[.int .i64 a0_0, .bool a0_1, .int .i64 a0_2, .int .i64 a0_3, .int .i64 a0_4, .int .i64 a0_5] 39 (0, 0))) ∧ Aside0 (Below w.heap.size w wc))
  case first =>
    have H := bI.out; clear bI
    by_cases c6 : a0_1 = true
    · subst c6
      have H1 : ((impl_WordOk.f k a0_0 true a0_2 a0_3 a0_4 a0_5).bind fun bm => (impl_Try.j0 k a1 a2 (!bm) a0_0 true a0_2 a0_3 a0_4 a0_5)) = some r := by rw [if_pos rfl] at H; exact H
      clear H; have H := H1; clear H1; replace H := Option.bind_eq_some_iff.mp H; obtain ⟨bm, A70, H⟩ := H; replace H : (impl_Try.j0 k a1 a2 (!bm) a0_0 true a0_2 a0_3 a0_4 a0_5) = some r := H; have A7 := Aside0.mk A70; clear A70; have H' := Aside0.mk H; clear H; obtain ⟨bY, bZ, b0, b1, b2, b3⟩ := c6e bc; obtain ⟨b4, b5, b6, b7, b8, b9⟩ := z6_ bc
      go_wp2_with (first | (go_at_call 38; (with_reducible refine (impl_WordOk.calls k a0_0 true a0_2 a0_3 a0_4 a0_5 bm _ A7.out).mono ?_); rintro e w9 ⟨rfl, hb⟩; replace bc := nblk bc hb; replace HB := nbs HB hb; (try clear hb)))
      go_meet
      case rel => exact ⟨_, (!bm), (by first | rfl | (simp; done) | (simp [*]; done)), H', ⟨by first | omega | exact Nat.le_refl _⟩, ⟨nb bc⟩, ⟨nbe HB⟩⟩
    · replace c6 := Bool.eq_false_iff.mpr c6
      subst c6; have H1 : (impl_Try.j0 k a1 a2 true a0_0 false a0_2 a0_3 a0_4 a0_5) = some r := by rw [if_neg (show ¬ (false = true) by decide)] at H; exact H
      clear H; have H := H1; clear H1; have H' := Aside0.mk H; clear H; obtain ⟨dn, dp, dq, dr, dt, du⟩ := c6e bc; obtain ⟨dv, dw, dx, dy, dz, dA⟩ := z6_ bc; go_wp2
      go_meet
      case rel => exact ⟨_, (true), (by first | rfl | (simp; done) | (simp [*]; done)), H', ⟨by first | omega | exact Nat.le_refl _⟩, ⟨nb bc⟩, ⟨nbe HB⟩⟩
  case rest =>
    clear bI; try clear p2
    try clear c3
    try clear c6
    try clear dn
    try clear dp
    try clear dq
    try clear dr
    try clear dt
    try clear du
    try clear bY
    try clear bZ
    try clear b0
    try clear b1
    try clear b2
    try clear b3
    try clear dv
    try clear dw
    try clear dx
    try clear dy
    try clear dz
    try clear dA
    try clear b4
    try clear b5
    try clear b6
    try clear b7
    try clear b8
    try clear b9
    obtain ⟨kq, bD, rfl, HA, ep, bc, HB⟩ := hcut
    cases kq with
    | zero => exact absurd HA.out (by simp [impl_Try.j0])
    | succ kj3 =>
      have H := HA.out; clear HA; simp only [impl_Try.j0] at H
      by_cases c11 : bD = true
      · subst c11
        have H1 : (some 1) = some r := by rw [if_pos rfl] at H; exact H
        clear H; have H := H1; clear H1; obtain rfl := Option.some.inj H; go_wp2
        go_ret
        exact ⟨er_, nbe HB⟩
      · replace c11 := Bool.eq_false_iff.mpr c11
        subst c11; have H1 : (if a0_5 = 0 then (if (Go.bits .andNot .i64 a2 a0_4) = 0 then (if a1 < a0_2 then (some 4) else (if a1 ≥ a0_3 then (some 4) else (some 0))) else (some 3)) else (some 2)) = some r := by rw [if_neg (show ¬ (false = true) by decide)] at H; exact H
        clear H; have H := H1; clear H1
        by_cases c12 : a0_5 = 0
        · rw [if_pos c12] at H
          have c12b0 : (a0_5 == 0) = true := beq_iff_eq.mpr c12; have c12b1 : (a0_5 != 0) = false := bne_eq_false_iff_eq.mpr c12; clear c12
          by_cases c13 : (Go.bits .andNot .i64 a2 a0_4) = 0
          · rw [if_pos c13] at H
            have c13b0 : ((Go.bits .andNot .i64 a2 a0_4) == 0) = true := beq_iff_eq.mpr c13; have c13b1 : ((Go.bits .andNot .i64 a2 a0_4) != 0) = false := bne_eq_false_iff_eq.mpr c13; clear c13
            by_cases c14 : a1 < a0_2
            · rw [if_pos c14] at H
              have c14b0 : decide (a1 < a0_2) = true := decide_eq_true c14; clear c14; obtain rfl := Option.some.inj H; obtain ⟨er, es, et, eu, ev, ew⟩ := c6e bc; obtain ⟨ex, ey, ez, eA, eB, eC⟩ := z6_ bc; go_wp2
              go_ret
              exact ⟨er_, nbe HB⟩
            · rw [if_neg c14] at H
              have c14b0 : decide (a1 < a0_2) = false := decide_eq_false c14; clear c14
              by_cases c16 : a1 ≥ a0_3
              · rw [if_pos c16] at H
                have c16b0 : decide (a0_3 ≤ a1) = true := decide_eq_true c16; clear c16; obtain rfl := Option.some.inj H; obtain ⟨eD, eE, eF, eG, eH, eI⟩ := c6e bc; obtain ⟨eJ, eK, eL, eM, eN, eO⟩ := z6_ bc; go_wp2
                go_ret
                exact ⟨er_, nbe HB⟩
              · rw [if_neg c16] at H
                have c16b0 : decide (a0_3 ≤ a1) = false := decide_eq_false c16; clear c16; obtain rfl := Option.some.inj H; obtain ⟨eP, eQ, eR, eS, eT, eU⟩ := c6e bc; obtain ⟨eV, eW, eX, eY, eZ, e0⟩ := z6_ bc; go_wp2
                go_ret
                exact ⟨er_, nbe HB⟩
          · rw [if_neg c13] at H
            have c13b0 : ((Go.bits .andNot .i64 a2 a0_4) == 0) = false := beq_eq_false_iff_ne.mpr c13; have c13b1 : ((Go.bits .andNot .i64 a2 a0_4) != 0) = true := bne_iff_ne.mpr c13; obtain rfl := Option.some.inj H; obtain ⟨dB, dC, e2, e3, e4, e5⟩ := c6e bc; obtain ⟨dD, dE, e6, e7, e8, e9⟩ := z6_ bc; go_wp2
            go_ret
            exact ⟨er_, nbe HB⟩
        · rw [if_neg c12] at H
          have c12b0 : (a0_5 == 0) = false := beq_eq_false_iff_ne.mpr c12; have c12b1 : (a0_5 != 0) = true := bne_iff_ne.mpr c12; obtain rfl := Option.some.inj H; obtain ⟨dF, dG, dH, dI, dJ, dK⟩ := c6e bc; obtain ⟨dL, dM, dN, dO, dP, dQ⟩ := z6_ bc; go_wp2
          go_ret
          exact ⟨er_, nbe HB⟩

/-! ### impl_permits: function 43 -/
def impl_permits.f (a0_0 : Int) (a0_1 : Bool) (a0_2 : Int) (a0_3 : Int) (a0_4 : Int) (a0_5 : Int) (a1 : Int) : Option (Bool) := some ((Go.bits .and .i64 a0_4 a1) != 0)
set_option maxHeartbeats 8000000 in
set_option maxRecDepth 100000 in
theorem impl_permits.calls (a0_0 : Int) (a0_1 : Bool) (a0_2 : Int) (a0_3 : Int) (a0_4 : Int) (a0_5 : Int) (a1 : Int) (r : Bool) (w : World) (h : impl_permits.f a0_0 a0_1 a0_2 a0_3 a0_4 a0_5 a1 = some r) :
    Calls Try.prog 43 #[.agg #[.int .i64 a0_0, .bool a0_1, .int .i64 a0_2, .int .i64 a0_3, .int .i64 a0_4, .int .i64 a0_5], .int .i64 a1] w fun e w' => e = .returned (.bool r) ∧ Below w.heap.size w w' := by
  have hu39 := Try.underlying39; have HB := Aside0.mk (Below.refl w.heap.size w); have H : (some ((Go.bits .and .i64 a0_4 a1) != 0)) = some r := h; clear h; obtain rfl := Option.some.inj H
  go_enter Try.func43, Try.ntmps43
  go_wp2_with (first | ((with_reducible refine gate_dst (N := 2) rfl ?_); refine bxe 2 #[.int .i64 a0_0, .bool a0_1, .int .i64 a0_2, .int .i64 a0_3, .int .i64 a0_4, .int .i64 a0_5] 39 ?_; intro ga hg w3 hbox hb; have da := hbox; have gb := nge HB hg; have gc := nge HB hg; replace HB := nbs HB hb; clear hb hbox hg; obtain ⟨dR, dS, dT, dU, dV, dW⟩ := c6e da; obtain ⟨dX, dY, dZ, d0, d1, d2⟩ := z6_ da))
  go_ret
  exact ⟨er_, nbe HB⟩

/-! ### impl_MayPut: function 35 -/
def impl_MayPut.f (a0_0 : Int) (a0_1 : Bool) (a0_2 : Int) (a0_3 : Int) (a0_4 : Int) (a0_5 : Int) (a1_0 : Int) (a1_1 : Bool) (a1_2 : Int) (a1_3 : Int) (a1_4 : Int) (a1_5 : Int) : Option (Bool) := if a1_1 = true then ((impl_permits.f a0_0 a0_1 a0_2 a0_3 a0_4 a0_5 16).bind fun bo => (some bo)) else (some true)
set_option maxHeartbeats 8000000 in
set_option maxRecDepth 100000 in
theorem impl_MayPut.calls (a0_0 : Int) (a0_1 : Bool) (a0_2 : Int) (a0_3 : Int) (a0_4 : Int) (a0_5 : Int) (a1_0 : Int) (a1_1 : Bool) (a1_2 : Int) (a1_3 : Int) (a1_4 : Int) (a1_5 : Int) (r : Bool) (w : World) (h : impl_MayPut.f a0_0 a0_1 a0_2 a0_3 a0_4 a0_5 a1_0 a1_1 a1_2 a1_3 a1_4 a1_5 = some r) :
    Calls Try.prog 35 #[.agg #[.int .i64 a0_0, .bool a0_1, .int .i64 a0_2, .int .i64 a0_3, .int .i64 a0_4, .int .i64 a0_5], .agg #[.int .i64 a1_0, .bool a1_1, .int .i64 a1_2, .int .i64 a1_3, .int .i64 a1_4, .int .i64 a1_5]] w fun e w' => e = .returned (.bool r) ∧ Below w.heap.size w w' := by
  have hu39 := Try.underlying39; have HB := Aside0.mk (Below.refl w.heap.size w); have H : (if a1_1 = true then ((impl_permits.f a0_0 a0_1 a0_2 a0_3 a0_4 a0_5 16).bind fun bo => (some bo)) else (some true)) = some r := h; clear h
  by_cases c3 : a1_1 = true
  · subst c3
    have H1 : ((impl_permits.f a0_0 a0_1 a0_2 a0_3 a0_4 a0_5 16).bind fun bo => (some bo)) = some r := by rw [if_pos rfl] at H; exact H
    clear H; have H := H1; clear H1; replace H := Option.bind_eq_some_iff.mp H; obtain ⟨bo, A40, H⟩ := H; replace H : (some bo) = some r := H; have A4 := Aside0.mk A40; clear A40; obtain rfl := Option.some.inj H
    go_enter Try.func35, Try.ntmps35
    go_wp2_with (first | ((with_reducible refine gate_dst (N := 2) rfl ?_); refine bxe 2 #[.int .i64 a0_0, .bool a0_1, .int .i64 a0_2, .int .i64 a0_3, .int .i64 a0_4, .int .i64 a0_5] 39 ?_; intro d3 hg w5 hbox hb; have bi := hbox; have d4 := nge HB hg; have d5 := nge HB hg; replace HB := nbs HB hb; clear hb hbox hg) | ((with_reducible refine gate_dst (N := 3) rfl ?_); refine bxe 3 #[.int .i64 a1_0, .bool true, .int .i64 a1_2, .int .i64 a1_3, .int .i64 a1_4, .int .i64 a1_5] 39 ?_; intro d6 hg w6 hbox hb; have br := hbox; have d7 := nge HB hg; have d8 := nge HB hg; have bJ := nlt bi hg; have bK := ngt bi hg; replace bi := nblk bi hb; replace HB := nbs HB hb; clear hb hbox hg; have gd := bK.out; have gf := bJ.out; obtain ⟨bY, bZ, b0, b1, b2, b3⟩ := c6e br; obtain ⟨b4, b5, b6, b7, b8, b9⟩ := z6_ br; obtain ⟨d9, ea, gg, gh, gi, gj⟩ := c6e bi; obtain ⟨eb, ec, gl, gm, gn, gp⟩ := z6_ bi) | (go_at_call 43; (with_reducible refine (impl_permits.calls a0_0 a0_1 a0_2 a0_3 a0_4 a0_5 16 bo _ A4.out).mono ?_); rintro e ed ⟨rfl, hb⟩; replace bi := nblk bi hb; replace br := nblk br hb; replace HB := nbs HB hb; (try clear hb)))
    go_ret
    exact ⟨er_, nbe HB⟩
  · replace c3 := Bool.eq_false_iff.mpr c3
    subst c3; have H1 : (some true) = some r := by rw [if_neg (show ¬ (false = true) by decide)] at H; exact H
    clear H; have H := H1; clear H1; obtain rfl := Option.some.inj H
    go_enter Try.func35, Try.ntmps35
    go_wp2_with (first | ((with_reducible refine gate_dst (N := 2) rfl ?_); refine bxe 2 #[.int .i64 a0_0, .bool a0_1, .int .i64 a0_2, .int .i64 a0_3, .int .i64 a0_4, .int .i64 a0_5] 39 ?_; intro d3 hg ee hbox hb; have bi := hbox; have d4 := nge HB hg; have d5 := nge HB hg; replace HB := nbs HB hb; clear hb hbox hg) | ((with_reducible refine gate_dst (N := 3) rfl ?_); refine bxe 3 #[.int .i64 a1_0, .bool false, .int .i64 a1_2, .int .i64 a1_3, .int .i64 a1_4, .int .i64 a1_5] 39 ?_; intro d6 hg ef hbox hb; have br := hbox; have d7 := nge HB hg; have d8 := nge HB hg; have bJ := nlt bi hg; have bK := ngt bi hg; replace bi := nblk bi hb; replace HB := nbs HB hb; clear hb hbox hg; have gq := bK.out; have gr := bJ.out; obtain ⟨gs, gt, gu, gv, gw, gx⟩ := c6e br; obtain ⟨gy, gz, gA, gB, gC, gD⟩ := z6_ br))
    go_ret
    exact ⟨er_, nbe HB⟩

/-! ### impl_writeCode: function 20 -/
def impl_writeCode.f (k : Nat) (l0_0 : List (S39)) (l0_1 : List Bool) (a1_0 : Int) (a1_1 : Bool) (a1_2 : Int) (a1_3 : Int) (a1_4 : Int) (a1_5 : Int) (a2 : Int) (a3_0 : Int) (a3_1 : Bool) (a3_2 : Int) (a3_3 : Int) (a3_4 : Int) (a3_5 : Int) : Option (Int) := (impl_Try.f k a1_0 a1_1 a1_2 a1_3 a1_4 a1_5 a2 2).bind fun bf => (if bf = 0 then ((impl_in.f a2 0 (wrap64 ((l0_0.length : Int) - 1))).bind fun bp => (if bp = true then ((impl_MayPut.f a1_0 a1_1 a1_2 a1_3 a1_4 a1_5 a3_0 a3_1 a3_2 a3_3 a3_4 a3_5).bind fun bj => (if bj = true then (some 0) else (some 3))) else (some 4))) else (some bf))
theorem impl_writeCode.mono : ∀ a0 a1 a2 a3 a4 a5 a6 a7 a8 a9 a10 a11 a12 a13 a14 k, LeO (impl_writeCode.f k a0 a1 a2 a3 a4 a5 a6 a7 a8 a9 a10 a11 a12 a13 a14) (impl_writeCode.f (k + 1) a0 a1 a2 a3 a4 a5 a6 a7 a8 a9 a10 a11 a12 a13 a14) := by
  intro a0 a1 a2 a3 a4 a5 a6 a7 a8 a9 a10 a11 a12 a13 a14 k
  unfold impl_writeCode.f
  repeat' first
      | (with_reducible exact impl_Try.mono _ _ _ _ _ _ _ _ _)
      | (with_reducible exact LeO.refl _)
      | (with_reducible exact LeO.none _)
      | (with_reducible refine LeO.ite ?_ ?_)
      | (with_reducible refine LeO.bind ?_ (fun _ => ?_))
      | exact impl_Try.mono _ _ _ _ _ _ _ _ _
      | exact LeO.none _
      | refine LeO.ite ?_ ?_
      | refine LeO.bind ?_ (fun _ => ?_)
set_option maxHeartbeats 8000000 in
set_option maxRecDepth 100000 in
theorem impl_writeCode.calls (k : Nat) (A0_0 : Option Addr) (c0_0 : Nat) (l0_0 : List (S39)) (A0_1 : Option Addr) (c0_1 : Nat) (l0_1 : List Bool) (a1_0 : Int) (a1_1 : Bool) (a1_2 : Int) (a1_3 : Int) (a1_4 : Int) (a1_5 : Int) (a2 : Int) (a3_0 : Int) (a3_1 : Bool) (a3_2 : Int) (a3_3 : Int) (a3_4 : Int) (a3_5 : Int) (r : Int) (w : World) (hr0_0 : Kd.C k39 w A0_0 l0_0.length l0_0) (hc0_0 : l0_0.length ≤ c0_0) (hr0_1 : Kd.C Kd.bool w A0_1 l0_1.length l0_1) (hc0_1 : l0_1.length ≤ c0_1) (h : impl_writeCode.f k l0_0 l0_1 a1_0 a1_1 a1_2 a1_3 a1_4 a1_5 a2 a3_0 a3_1 a3_2 a3_3 a3_4 a3_5 = some r) :
    Calls Try.prog 20 #[.agg #[.slice A0_0 l0_0.length c0_0, .slice A0_1 l0_1.length c0_1], .agg #[.int .i64 a1_0, .bool a1_1, .int .i64 a1_2, .int .i64 a1_3, .int .i64 a1_4, .int .i64 a1_5], .int .i64 a2, .agg #[.int .i64 a3_0, .bool a3_1, .int .i64 a3_2, .int .i64 a3_3, .int .i64 a3_4, .int .i64 a3_5]] w fun e w' => e = .returned (.int .i64 r) ∧ Below w.heap.size w w' := by
  have hu33 := Try.underlying33; have hu39 := Try.underlying39; have bE := Aside0.mk hr0_0; have bF := Aside0.mk hc0_0; clear hr0_0 hc0_0; have bL := Aside0.mk hr0_1; have bM := Aside0.mk hc0_1; clear hr0_1 hc0_1; have HB := Aside0.mk (Below.refl w.heap.size w); have H : ((impl_Try.f k a1_0 a1_1 a1_2 a1_3 a1_4 a1_5 a2 2).bind fun bf => (if bf = 0 then ((impl_in.f a2 0 (wrap64 ((l0_0.length : Int) - 1))).bind fun bp => (if bp = true then ((impl_MayPut.f a1_0 a1_1 a1_2 a1_3 a1_4 a1_5 a3_0 a3_1 a3_2 a3_3 a3_4 a3_5).bind fun bj => (if bj = true then (some 0) else (some 3))) else (some 4))) else (some bf))) = some r := h; clear h; replace H := Option.bind_eq_some_iff.mp H; obtain ⟨bf, A50, H⟩ := H; replace H : (if bf = 0 then ((impl_in.f a2 0 (wrap64 ((l0_0.length : Int) - 1))).bind fun bp => (if bp = true then ((impl_MayPut.f a1_0 a1_1 a1_2 a1_3 a1_4 a1_5 a3_0 a3_1 a3_2 a3_3 a3_4 a3_5).bind fun bj => (if bj = true then (some 0) else (some 3))) else (some 4))) else (some bf)) = some r := H; have A5 := Aside0.mk A50; clear A50
  by_cases c6 : bf = 0
  · rw [if_pos c6] at H
    have c6b0 : (bf == 0) = true := beq_iff_eq.mpr c6; have c6b1 : (bf != 0) = false := bne_eq_false_iff_eq.mpr c6; clear c6; replace H := Option.bind_eq_some_iff.mp H; obtain ⟨bp, A70, H⟩ := H; replace H : (if bp = true then ((impl_MayPut.f a1_0 a1_1 a1_2 a1_3 a1_4 a1_5 a3_0 a3_1 a3_2 a3_3 a3_4 a3_5).bind fun bj => (if bj = true then (some 0) else (some 3))) else (some 4)) = some r := H; have A7 := Aside0.mk A70; clear A70
    by_cases c8 : bp = true
    · subst c8
      have H1 : ((impl_MayPut.f a1_0 a1_1 a1_2 a1_3 a1_4 a1_5 a3_0 a3_1 a3_2 a3_3 a3_4 a3_5).bind fun bj => (if bj = true then (some 0) else (some 3))) = some r := by rw [if_pos rfl] at H; exact H
      clear H; have H := H1; clear H1; replace H := Option.bind_eq_some_iff.mp H; obtain ⟨bj, A90, H⟩ := H; replace H : (if bj = true then (some 0) else (some 3)) = some r := H; have A9 := Aside0.mk A90; clear A90
      by_cases c10 : bj = true
      · subst c10
        have H1 : (some 0) = some r := by rw [if_pos rfl] at H; exact H
        clear H; have H := H1; clear H1; obtain rfl := Option.some.inj H
        go_enter Try.func20, Try.ntmps20
        go_wp2_with (first | ((with_reducible refine gate_dst (N := 4) rfl ?_); refine bxe 4 #[.slice A0_0 l0_0.length c0_0, .slice A0_1 l0_1.length c0_1] 33 ?_; intro bN hg ee hbox hb; have ba := hbox; have bO := nge HB hg; have bP := nge HB hg; replace HB := nbs HB hb; clear hb hbox hg) | ((with_reducible refine gate_dst (N := 5) rfl ?_); refine bxe 5 #[.int .i64 a1_0, .bool a1_1, .int .i64 a1_2, .int .i64 a1_3, .int .i64 a1_4, .int .i64 a1_5] 39 ?_; intro bQ hg ef hbox hb; have bb := hbox; have bR := nge HB hg; have bS := nge HB hg; have bs := nlt ba hg; have bt := ngt ba hg; replace ba := nblk ba hb; replace HB := nbs HB hb; clear hb hbox hg) | ((with_reducible refine gate_dst (N := 7) rfl ?_); refine bxe 7 #[.int .i64 a3_0, .bool a3_1, .int .i64 a3_2, .int .i64 a3_3, .int .i64 a3_4, .int .i64 a3_5] 39 ?_; intro bT hg gE hbox hb; have bd := hbox; have bU := nge HB hg; have bV := nge HB hg; have bw := nlt ba hg; have bx := ngt ba hg; have bu := nlt bb hg; have bv := ngt bb hg; replace ba := nblk ba hb; replace bb := nblk bb hb; replace HB := nbs HB hb; clear hb hbox hg; have gF := bt.out; have gG := bs.out; have gH := bu.out; have gI := bv.out; obtain ⟨gJ, gK, gL, gM, gN, gO⟩ := c6e bb; obtain ⟨gP, gQ, gR, gS, gT, gU⟩ := z6_ bb) | ((with_reducible refine gate_callee (f := 33) rfl ?_); refine goesM (some 12) rfl rfl Try.func33 (by kernel_rfl) rfl #[.agg #[.int .i64 a1_0, .bool a1_1, .int .i64 a1_2, .int .i64 a1_3, .int .i64 a1_4, .int .i64 a1_5], .int .i64 a2, .int .i64 2] rfl ?_; (with_reducible refine (impl_Try.calls k a1_0 a1_1 a1_2 a1_3 a1_4 a1_5 a2 2 bf _ A5.out).mono ?_); rintro e gV ⟨rfl, hb⟩; refine ⟨_, rfl, ?_⟩; replace ba := nblk ba hb; replace bb := nblk bb hb; replace bd := nblk bd hb; replace HB := nbs HB hb; (try clear hb); have gW := bw.out; have gX := bx.out; obtain ⟨dB, dC⟩ := c2e ba; obtain ⟨dD, dE⟩ := z2_ ba) | ((with_reducible refine gate_callee (f := 34) rfl ?_); refine goesM (some 23) rfl rfl Try.func34 (by kernel_rfl) rfl #[.int .i64 a2, .int .i64 0, .int .i64 (wrap64 ((l0_0.length : Int) - 1))] rfl ?_; (with_reducible refine (impl_in.calls a2 0 (wrap64 ((l0_0.length : Int) - 1)) true _ A7.out).mono ?_); rintro e w' ⟨rfl, ⟨nd, rfl⟩⟩; refine ⟨_, rfl, ?_⟩; obtain ⟨dF, dG, dH, dI, dJ, dK⟩ := c6e bb; obtain ⟨dL, dM, dN, dO, dP, dQ⟩ := z6_ bb; obtain ⟨gY, gZ, g0, g1, g3, g4⟩ := c6e bd; obtain ⟨g5, g6, g7, g8, g9, ha⟩ := z6_ bd) | ((with_reducible refine gate_callee (f := 35) rfl ?_); refine goesM (some 28) rfl rfl Try.func35 (by kernel_rfl) rfl #[.agg #[.int .i64 a1_0, .bool a1_1, .int .i64 a1_2, .int .i64 a1_3, .int .i64 a1_4, .int .i64 a1_5], .agg #[.int .i64 a3_0, .bool a3_1, .int .i64 a3_2, .int .i64 a3_3, .int .i64 a3_4, .int .i64 a3_5]] rfl ?_; (with_reducible refine (impl_MayPut.calls a1_0 a1_1 a1_2 a1_3 a1_4 a1_5 a3_0 a3_1 a3_2 a3_3 a3_4 a3_5 true _ A9.out).mono ?_); rintro e hc ⟨rfl, hb⟩; refine ⟨_, rfl, ?_⟩; replace ba := nblk ba hb; replace bb := nblk bb hb; replace bd := nblk bd hb; replace HB := nbs HB hb; (try clear hb)))
        go_ret
        exact ⟨er_, nbe HB⟩
      · replace c10 := Bool.eq_false_iff.mpr c10
        subst c10; have H1 : (some 3) = some r := by rw [if_neg (show ¬ (false = true) by decide)] at H; exact H
        clear H; have H := H1; clear H1; obtain rfl := Option.some.inj H
        go_enter Try.func20, Try.ntmps20
        go_wp2_with (first | ((with_reducible refine gate_dst (N := 4) rfl ?_); refine bxe 4 #[.slice A0_0 l0_0.length c0_0, .slice A0_1 l0_1.length c0_1] 33 ?_; intro bN hg hf hbox hb; have ba := hbox; have bO := nge HB hg; have bP := nge HB hg; replace HB := nbs HB hb; clear hb hbox hg) | ((with_reducible refine gate_dst (N := 5) rfl ?_); refine bxe 5 #[.int .i64 a1_0, .bool a1_1, .int .i64 a1_2, .int .i64 a1_3, .int .i64 a1_4, .int .i64 a1_5] 39 ?_; intro bQ hg hh hbox hb; have bb := hbox; have bR := nge HB hg; have bS := nge HB hg; have bs := nlt ba hg; have bt := ngt ba hg; replace ba := nblk ba hb; replace HB := nbs HB hb; clear hb hbox hg) | ((with_reducible refine gate_dst (N := 7) rfl ?_); refine bxe 7 #[.int .i64 a3_0, .bool a3_1, .int .i64 a3_2, .int .i64 a3_3, .int .i64 a3_4, .int .i64 a3_5] 39 ?_; intro bT hg hj hbox hb; have bd := hbox; have bU := nge HB hg; have bV := nge HB hg; have bw := nlt ba hg; have bx := ngt ba hg; have bu := nlt bb hg; have bv := ngt bb hg; replace ba := nblk ba hb; replace bb := nblk bb hb; replace HB := nbs HB hb; clear hb hbox hg; have hm := bt.out; have hn := bs.out; have hq := bu.out; have hs := bv.out; obtain ⟨ht, hu, hv, hw, hx, hy⟩ := c6e bb; obtain ⟨hz, hA, hB, hC, hD, hE⟩ := z6_ bb) | ((with_reducible refine gate_callee (f := 33) rfl ?_); refine goesM (some 12) rfl rfl Try.func33 (by kernel_rfl) rfl #[.agg #[.int .i64 a1_0, .bool a1_1, .int .i64 a1_2, .int .i64 a1_3, .int .i64 a1_4, .int .i64 a1_5], .int .i64 a2, .int .i64 2] rfl ?_; (with_reducible refine (impl_Try.calls k a1_0 a1_1 a1_2 a1_3 a1_4 a1_5 a2 2 bf _ A5.out).mono ?_); rintro e hF ⟨rfl, hb⟩; refine ⟨_, rfl, ?_⟩; replace ba := nblk ba hb; replace bb := nblk bb hb; replace bd := nblk bd hb; replace HB := nbs HB hb; (try clear hb); have hG := bw.out; have hH := bx.out; obtain ⟨hI, hJ⟩ := c2e ba; obtain ⟨hL, hM⟩ := z2_ ba) | ((with_reducible refine gate_callee (f := 34) rfl ?_); refine goesM (some 23) rfl rfl Try.func34 (by kernel_rfl) rfl #[.int .i64 a2, .int .i64 0, .int .i64 (wrap64 ((l0_0.length : Int) - 1))] rfl ?_; (with_reducible refine (impl_in.calls a2 0 (wrap64 ((l0_0.length : Int) - 1)) true _ A7.out).mono ?_); rintro e w' ⟨rfl, ⟨nd, rfl⟩⟩; refine ⟨_, rfl, ?_⟩; obtain ⟨hN, hO, hQ, hR, hS, hT⟩ := c6e bb; obtain ⟨hU, hV, hW, hX, hY, hZ⟩ := z6_ bb; obtain ⟨h0, h1, h2, h3, h4, h5⟩ := c6e bd; obtain ⟨h6, h7, h8, h9, ia, ib⟩ := z6_ bd) | ((with_reducible refine gate_callee (f := 35) rfl ?_); refine goesM (some 28) rfl rfl Try.func35 (by kernel_rfl) rfl #[.agg #[.int .i64 a1_0, .bool a1_1, .int .i64 a1_2, .int .i64 a1_3, .int .i64 a1_4, .int .i64 a1_5], .agg #[.int .i64 a3_0, .bool a3_1, .int .i64 a3_2, .int .i64 a3_3, .int .i64 a3_4, .int .i64 a3_5]] rfl ?_; (with_reducible refine (impl_MayPut.calls a1_0 a1_1 a1_2 a1_3 a1_4 a1_5 a3_0 a3_1 a3_2 a3_3 a3_4 a3_5 false _ A9.out).mono ?_); rintro e ic ⟨rfl, hb⟩; refine ⟨_, rfl, ?_⟩; replace ba := nblk ba hb; replace bb := nblk bb hb; replace bd := nblk bd hb; replace HB := nbs HB hb; (try clear hb)))
        go_ret
        exact ⟨er_, nbe HB⟩
    · replace c8 := Bool.eq_false_iff.mpr c8
      subst c8; have H1 : (some 4) = some r := by rw [if_neg (show ¬ (false = true) by decide)] at H; exact H
      clear H; have H := H1; clear H1; obtain rfl := Option.some.inj H
      go_enter Try.func20, Try.ntmps20
      go_wp2_with (first | ((with_reducible refine gate_dst (N := 4) rfl ?_); refine bxe 4 #[.slice A0_0 l0_0.length c0_0, .slice A0_1 l0_1.length c0_1] 33 ?_; intro bN hg ig hbox hb; have ba := hbox; have bO := nge HB hg; have bP := nge HB hg; replace HB := nbs HB hb; clear hb hbox hg) | ((with_reducible refine gate_dst (N := 5) rfl ?_); refine bxe 5 #[.int .i64 a1_0, .bool a1_1, .int .i64 a1_2, .int .i64 a1_3, .int .i64 a1_4, .int .i64 a1_5] 39 ?_; intro bQ hg ih hbox hb; have bb := hbox; have bR := nge HB hg; have bS := nge HB hg; have bs := nlt ba hg; have bt := ngt ba hg; replace ba := nblk ba hb; replace HB := nbs HB hb; clear hb hbox hg) | ((with_reducible refine gate_dst (N := 7) rfl ?_); refine bxe 7 #[.int .i64 a3_0, .bool a3_1, .int .i64 a3_2, .int .i64 a3_3, .int .i64 a3_4, .int .i64 a3_5] 39 ?_; intro bT hg ii hbox hb; have bd := hbox; have bU := nge HB hg; have bV := nge HB hg; have bw := nlt ba hg; have bx := ngt ba hg; have bu := nlt bb hg; have bv := ngt bb hg; replace ba := nblk ba hb; replace bb := nblk bb hb; replace HB := nbs HB hb; clear hb hbox hg; have ij := bt.out; have ik := bs.out; have il := bu.out; have im := bv.out; obtain ⟨io, ip, iq, ir, iu, iv⟩ := c6e bb; obtain ⟨iw, ix, iy, iz, iA, iB⟩ := z6_ bb) | ((with_reducible refine gate_callee (f := 33) rfl ?_); refine goesM (some 12) rfl rfl Try.func33 (by kernel_rfl) rfl #[.agg #[.int .i64 a1_0, .bool a1_1, .int .i64 a1_2, .int .i64 a1_3, .int .i64 a1_4, .int .i64 a1_5], .int .i64 a2, .int .i64 2] rfl ?_; (with_reducible refine (impl_Try.calls k a1_0 a1_1 a1_2 a1_3 a1_4 a1_5 a2 2 bf _ A5.out).mono ?_); rintro e iC ⟨rfl, hb⟩; refine ⟨_, rfl, ?_⟩; replace ba := nblk ba hb; replace bb := nblk bb hb; replace bd := nblk bd hb; replace HB := nbs HB hb; (try clear hb); have iD := bw.out; have iE := bx.out; obtain ⟨iF, iG⟩ := c2e ba; obtain ⟨iH, iI⟩ := z2_ ba) | ((with_reducible refine gate_callee (f := 34) rfl ?_); refine goesM (some 23) rfl rfl Try.func34 (by kernel_rfl) rfl #[.int .i64 a2, .int .i64 0, .int .i64 (wrap64 ((l0_0.length : Int) - 1))] rfl ?_; (with_reducible refine (impl_in.calls a2 0 (wrap64 ((l0_0.length : Int) - 1)) false _ A7.out).mono ?_); rintro e w' ⟨rfl, ⟨nd, rfl⟩⟩; refine ⟨_, rfl, ?_⟩))
      go_ret
      exact ⟨er_, nbe HB⟩
  · rw [if_neg c6] at H
    have c6b0 : (bf == 0) = false := beq_eq_false_iff_ne.mpr c6; have c6b1 : (bf != 0) = true := bne_iff_ne.mpr c6; obtain rfl := Option.some.inj H
    go_enter Try.func20, Try.ntmps20
    go_wp2_with (first | ((with_reducible refine gate_dst (N := 4) rfl ?_); refine bxe 4 #[.slice A0_0 l0_0.length c0_0, .slice A0_1 l0_1.length c0_1] 33 ?_; intro bN hg iJ hbox hb; have ba := hbox; have bO := nge HB hg; have bP := nge HB hg; replace HB := nbs HB hb; clear hb hbox hg) | ((with_reducible refine gate_dst (N := 5) rfl ?_); refine bxe 5 #[.int .i64 a1_0, .bool a1_1, .int .i64 a1_2, .int .i64 a1_3, .int .i64 a1_4, .int .i64 a1_5] 39 ?_; intro bQ hg iK hbox hb; have bb := hbox; have bR := nge HB hg; have bS := nge HB hg; have bs := nlt ba hg; have bt := ngt ba hg; replace ba := nblk ba hb; replace HB := nbs HB hb; clear hb hbox hg) | ((with_reducible refine gate_dst (N := 7) rfl ?_); refine bxe 7 #[.int .i64 a3_0, .bool a3_1, .int .i64 a3_2, .int .i64 a3_3, .int .i64 a3_4, .int .i64 a3_5] 39 ?_; intro bT hg iL hbox hb; have bd := hbox; have bU := nge HB hg; have bV := nge HB hg; have bw := nlt ba hg; have bx := ngt ba hg; have bu := nlt bb hg; have bv := ngt bb hg; replace ba := nblk ba hb; replace bb := nblk bb hb; replace HB := nbs HB hb; clear hb hbox hg; have iM := bt.out; have iN := bs.out; have iO := bu.out; have iP := bv.out; obtain ⟨iQ, iR, iS, iT, iU, iV⟩ := c6e bb; obtain ⟨iW, iX, iY, iZ, i0, i1⟩ := z6_ bb) | ((with_reducible refine gate_callee (f := 33) rfl ?_); refine goesM (some 12) rfl rfl Try.func33 (by kernel_rfl) rfl #[.agg #[.int .i64 a1_0, .bool a1_1, .int .i64 a1_2, .int .i64 a1_3, .int .i64 a1_4, .int .i64 a1_5], .int .i64 a2, .int .i64 2] rfl ?_; (with_reducible refine (impl_Try.calls k a1_0 a1_1 a1_2 a1_3 a1_4 a1_5 a2 2 bf _ A5.out).mono ?_); rintro e i2 ⟨rfl, hb⟩; refine ⟨_, rfl, ?_⟩; replace ba := nblk ba hb; replace bb := nblk bb hb; replace bd := nblk bd hb; replace HB := nbs HB hb; (try clear hb)))
    go_ret
    exact ⟨er_, nbe HB⟩

-- NOT PRINTED: function 44 (impl_Word_44)

-- NOT PRINTED: function 36 (impl_Word_36)

/-! ### impl_MemoryOk_1: function 37 -/
def impl_MemoryOk_1.f (k : Nat) (a0_0 : Int) (a0_1 : Bool) (a0_2 : Int) (a0_3 : Int) (a0_4 : Int) (a0_5 : Int) : Option (Bool) := (impl_WordOk.f k a0_0 a0_1 a0_2 a0_3 a0_4 a0_5).bind fun bz => (some (!bz))
theorem impl_MemoryOk_1.mono : ∀ a0 a1 a2 a3 a4 a5 k, LeO (impl_MemoryOk_1.f k a0 a1 a2 a3 a4 a5) (impl_MemoryOk_1.f (k + 1) a0 a1 a2 a3 a4 a5) := by
  intro a0 a1 a2 a3 a4 a5 k
  unfold impl_MemoryOk_1.f
  repeat' first
      | (with_reducible exact impl_WordOk.mono _ _ _ _ _ _ _)
      | (with_reducible exact LeO.refl _)
      | (with_reducible exact LeO.none _)
      | (with_reducible refine LeO.ite ?_ ?_)
      | (with_reducible refine LeO.bind ?_ (fun _ => ?_))
      | exact impl_WordOk.mono _ _ _ _ _ _ _
      | exact LeO.none _
      | refine LeO.ite ?_ ?_
      | refine LeO.bind ?_ (fun _ => ?_)
set_option maxHeartbeats 8000000 in
set_option maxRecDepth 100000 in
theorem impl_MemoryOk_1.calls (k : Nat) (a0_0 : Int) (a0_1 : Bool) (a0_2 : Int) (a0_3 : Int) (a0_4 : Int) (a0_5 : Int) (r : Bool) (w : World) (h : impl_MemoryOk_1.f k a0_0 a0_1 a0_2 a0_3 a0_4 a0_5 = some r) :
    Calls Try.prog 37 #[.agg #[.int .i64 a0_0, .bool a0_1, .int .i64 a0_2, .int .i64 a0_3, .int .i64 a0_4, .int .i64 a0_5]] w fun e w' => e = .returned (.bool r) ∧ Below w.heap.size w w' := by
  have hu39 := Try.underlying39; have HB := Aside0.mk (Below.refl w.heap.size w); have H : ((impl_WordOk.f k a0_0 a0_1 a0_2 a0_3 a0_4 a0_5).bind fun bz => (some (!bz))) = some r := h; clear h; replace H := Option.bind_eq_some_iff.mp H; obtain ⟨bz, A20, H⟩ := H; replace H : (some (!bz)) = some r := H; have A2 := Aside0.mk A20; clear A20; obtain rfl := Option.some.inj H
  go_enter Try.func37, Try.ntmps37
  go_wp2_with (first | ((with_reducible refine gate_dst (N := 1) rfl ?_); refine bxe 1 #[.int .i64 a0_0, .bool a0_1, .int .i64 a0_2, .int .i64 a0_3, .int .i64 a0_4, .int .i64 a0_5] 39 ?_; intro i3 hg w3 hbox hb; have bG := hbox; have i4 := nge HB hg; have i5 := nge HB hg; replace HB := nbs HB hb; clear hb hbox hg; obtain ⟨dR, dS, dT, dU, dV, dW⟩ := c6e bG; obtain ⟨dX, dY, dZ, d0, d1, d2⟩ := z6_ bG) | ((with_reducible refine gate_callee (f := 38) rfl ?_); refine goesM (some 4) rfl rfl Try.func38 (by kernel_rfl) rfl #[.agg #[.int .i64 a0_0, .bool a0_1, .int .i64 a0_2, .int .i64 a0_3, .int .i64 a0_4, .int .i64 a0_5]] rfl ?_; (with_reducible refine (impl_WordOk.calls k a0_0 a0_1 a0_2 a0_3 a0_4 a0_5 bz _ A2.out).mono ?_); rintro e w5 ⟨rfl, hb⟩; refine ⟨_, rfl, ?_⟩; replace bG := nblk bG hb; replace HB := nbs HB hb; (try clear hb)))
  go_ret
  exact ⟨er_, nbe HB⟩

/-! ### CF_impl_MemoryOk_1: function 36 with function 37 -/
def CF_impl_MemoryOk_1.l0 : Nat → List (S39) → Int → Option Int
  | 0, _, _ => none
  | k + 1, l, i => if i < (l.length : Int) then (if 0 ≤ i then (impl_MemoryOk_1.f k (rd_T39 l i).f0 (rd_T39 l i).f1 (rd_T39 l i).f2.f0 (rd_T39 l i).f2.f1 (rd_T39 l i).f2.f2 (rd_T39 l i).f2.f3).bind fun t => (if t = true then some i else CF_impl_MemoryOk_1.l0 k l (wrap64 (i + 1))) else none) else some (-1)
def CF_impl_MemoryOk_1.f (k : Nat) (l0 : List (S39)) (u : Unit) : Option Bool := (CF_impl_MemoryOk_1.l0 k l0 0).bind fun t => some (decide (t ≥ 0))
theorem CF_impl_MemoryOk_1.mono_l : ∀ k, (∀ y0 y1, LeO (CF_impl_MemoryOk_1.l0 k y0 y1) (CF_impl_MemoryOk_1.l0 (k + 1) y0 y1))
  | 0 => fun _ _ r h => by simp [CF_impl_MemoryOk_1.l0] at h
  | k + 1 => by
    have ih0 := CF_impl_MemoryOk_1.mono_l k
    · intro y0 y1
      unfold CF_impl_MemoryOk_1.l0
      repeat' first
      | (with_reducible exact ih0 _ _)
      | (with_reducible exact impl_MemoryOk_1.mono _ _ _ _ _ _ _)
      | (with_reducible exact LeO.refl _)
      | (with_reducible exact LeO.none _)
      | (with_reducible refine LeO.ite ?_ ?_)
      | (with_reducible refine LeO.bind ?_ (fun _ => ?_))
      | exact ih0 _ _
      | exact impl_MemoryOk_1.mono _ _ _ _ _ _ _
      | exact LeO.none _
      | refine LeO.ite ?_ ?_
      | refine LeO.bind ?_ (fun _ => ?_)
theorem CF_impl_MemoryOk_1.mono : ∀ a0 a1 k, LeO (CF_impl_MemoryOk_1.f k a0 a1) (CF_impl_MemoryOk_1.f (k + 1) a0 a1) := by
  intro a0 a1 k; have ih0 := CF_impl_MemoryOk_1.mono_l k
  unfold CF_impl_MemoryOk_1.f
  repeat' first
      | (with_reducible exact ih0 _ _)
      | (with_reducible exact impl_MemoryOk_1.mono _ _ _ _ _ _ _)
      | (with_reducible exact LeO.refl _)
      | (with_reducible exact LeO.none _)
      | (with_reducible refine LeO.ite ?_ ?_)
      | (with_reducible refine LeO.bind ?_ (fun _ => ?_))
      | exact ih0 _ _
      | exact impl_MemoryOk_1.mono _ _ _ _ _ _ _
      | exact LeO.none _
      | refine LeO.ite ?_ ?_
      | refine LeO.bind ?_ (fun _ => ?_)
set_option maxHeartbeats 8000000 in
set_option maxRecDepth 100000 in
theorem CF_impl_MemoryOk_1.idx (k : Nat) (A0 : Option Addr) (c0 : Nat) (l0 : List (S39)) (r : Int) (w : World) (hr0 : Kd.C k39 w A0 l0.length l0) (h : CF_impl_MemoryOk_1.l0 k l0 0 = some r) :
  Calls Try.prog 44 #[.slice A0 l0.length c0, .func (.func 37) #[] #[]] w fun e w' => e = .returned (.int .i64 r) ∧ Below w.heap.size w w' := by
 have hu39 := Try.underlying39; have bk := Aside0.mk hr0; have HB := Aside0.mk (Below.refl w.heap.size w); have H' := Aside0.mk h; clear hr0 h
 go_enter Try.func44, Try.ntmps44
 go_wp2
 go_loopg [5, 8] k (fun kq v5 v8 w' => ∃ x8 : Int, v8 = .int .i64 x8 ∧ Aside0 (CF_impl_MemoryOk_1.l0 kq l0 x8 = some r) ∧ Aside0 (kq ≤ k) ∧ Aside0 (Below w.heap.size w w'))
 case atStart => exact ⟨0, rfl, H', ⟨Nat.le_refl _⟩, HB⟩
 case round =>
  clear H'; obtain ⟨x8, rfl, HA, HK, HB⟩ := hrel
  cases gk with
  | zero => exact absurd HA.out (by simp [CF_impl_MemoryOk_1.l0])
  | succ k1 =>
   have H := HA.out; clear HA; simp only [CF_impl_MemoryOk_1.l0] at H
   by_cases c1 : x8 < (l0.length : Int)
   · rw [if_pos c1] at H
     by_cases c2 : 0 ≤ x8
     · rw [if_pos c2] at H
       replace H := Option.bind_eq_some_iff.mp H; obtain ⟨t, A80, H⟩ := H; have A8 := Aside0.mk A80; clear A80; obtain ⟨i6, e1, hx_0, hx_1, hx_2, hx_3, hx_4, hx_5⟩ := at_T39 bk.out x8 c2 c1
       cases e1
       replace hx_0 := (HB.out.cell (World.block_lt_of_cell? w _ hx_0)).trans hx_0; replace hx_1 := (HB.out.cell (World.block_lt_of_cell? w _ hx_1)).trans hx_1; replace hx_2 := (HB.out.cell (World.block_lt_of_cell? w _ hx_2)).trans hx_2; replace hx_3 := (HB.out.cell (World.block_lt_of_cell? w _ hx_3)).trans hx_3; replace hx_4 := (HB.out.cell (World.block_lt_of_cell? w _ hx_4)).trans hx_4; replace hx_5 := (HB.out.cell (World.block_lt_of_cell? w _ hx_5)).trans hx_5; have c1b : decide (x8 < (l0.length : Int)) = true := decide_eq_true c1; have c2b : decide (0 ≤ x8) = true := decide_eq_true c2; replace c2 := eq_true c2; replace c1 := eq_true c1
       cases t with
       | true =>
         obtain rfl : x8 = r := by simpa using H
         clear H
         go_wp2_with (first | (go_at_call 37; refine (impl_MemoryOk_1.calls k1 (rd_T39 l0 x8).f0 (rd_T39 l0 x8).f1 (rd_T39 l0 x8).f2.f0 (rd_T39 l0 x8).f2.f1 (rd_T39 l0 x8).f2.f2 (rd_T39 l0 x8).f2.f3 true _ A8.out).mono ?_; rintro e w' ⟨rfl, hb⟩))
         go_ret
         exact ⟨rfl, below_step HB.out hb⟩
       | false =>
         have H' : Aside0 (CF_impl_MemoryOk_1.l0 k1 l0 (wrap64 (x8 + 1)) = some r) := ⟨by simpa using H⟩; clear H
         go_wp2_with (first | (go_at_call 37; refine (impl_MemoryOk_1.calls k1 (rd_T39 l0 x8).f0 (rd_T39 l0 x8).f1 (rd_T39 l0 x8).f2.f0 (rd_T39 l0 x8).f2.f1 (rd_T39 l0 x8).f2.f2 (rd_T39 l0 x8).f2.f3 false _ A8.out).mono ?_; rintro e w' ⟨rfl, hb⟩))
         go_roundg k1
         case measure => have := HK.out; omega
         case rel => exact ⟨_, rfl, H', ⟨by have := HK.out; omega⟩, ⟨below_step HB.out hb⟩⟩
     · rw [if_neg c2] at H
       exact absurd H (by simp)
   · rw [if_neg c1] at H
     obtain rfl : -1 = r := by simpa using H
     clear H; go_wp2
     go_ret
     exact ⟨rfl, HB.out⟩
set_option maxHeartbeats 8000000 in
set_option maxRecDepth 100000 in
theorem CF_impl_MemoryOk_1.calls (k : Nat) (A0 : Option Addr) (c0 : Nat) (l0 : List (S39)) (u : Unit) (r : Bool) (w : World) (hr0 : Kd.C k39 w A0 l0.length l0) (hc0 : l0.length ≤ c0) (h : CF_impl_MemoryOk_1.f k l0 u = some r) :
  Calls Try.prog 36 #[.slice A0 l0.length c0, .func (.func 37) #[] #[]] w fun e w' => e = .returned (.bool r) ∧ Below w.heap.size w w' := by
 obtain ⟨t, A80, H⟩ := Option.bind_eq_some_iff.mp h; have A8 := Aside0.mk A80; have bk := Aside0.mk hr0; obtain rfl : decide (t ≥ 0) = r := by simpa using H
 clear A80 H h hr0 hc0
 go_enter Try.func36, Try.ntmps36
 go_wp2_with (first | (go_at_call 44; refine (CF_impl_MemoryOk_1.idx k A0 c0 l0 t _ bk.out A8.out).mono ?_; rintro e w' ⟨rfl, hb⟩))
 go_ret
 exact ⟨rfl, hb⟩

/-! ### impl_MemoryOk: function 21 -/
def impl_MemoryOk.f (k : Nat) (l0_0 : List (S39)) (l0_1 : List Bool) : Option (Bool) := if (l0_0.length : Int) = 24 then (if (l0_1.length : Int) = 24 then ((CF_impl_MemoryOk_1.f k l0_0 ()).bind fun bA => (some (!bA))) else (some false)) else (some false)
theorem impl_MemoryOk.mono : ∀ a0 a1 k, LeO (impl_MemoryOk.f k a0 a1) (impl_MemoryOk.f (k + 1) a0 a1) := by
  intro a0 a1 k
  unfold impl_MemoryOk.f
  repeat' first
      | (with_reducible exact CF_impl_MemoryOk_1.mono _ _ _)
      | (with_reducible exact LeO.refl _)
      | (with_reducible exact LeO.none _)
      | (with_reducible refine LeO.ite ?_ ?_)
      | (with_reducible refine LeO.bind ?_ (fun _ => ?_))
      | exact CF_impl_MemoryOk_1.mono _ _ _
      | exact LeO.none _
      | refine LeO.ite ?_ ?_
      | refine LeO.bind ?_ (fun _ => ?_)
set_option maxHeartbeats 8000000 in
set_option maxRecDepth 100000 in
theorem impl_MemoryOk.calls (k : Nat) (A0_0 : Option Addr) (c0_0 : Nat) (l0_0 : List (S39)) (A0_1 : Option Addr) (c0_1 : Nat) (l0_1 : List Bool) (r : Bool) (w : World) (hr0_0 : Kd.C k39 w A0_0 l0_0.length l0_0) (hc0_0 : l0_0.length ≤ c0_0) (hr0_1 : Kd.C Kd.bool w A0_1 l0_1.length l0_1) (hc0_1 : l0_1.length ≤ c0_1) (h : impl_MemoryOk.f k l0_0 l0_1 = some r) :
    Calls Try.prog 21 #[.agg #[.slice A0_0 l0_0.length c0_0, .slice A0_1 l0_1.length c0_1]] w fun e w' => e = .returned (.bool r) ∧ Below w.heap.size w w' := by
  have hu33 := Try.underlying33; have bE := Aside0.mk hr0_0; have bF := Aside0.mk hc0_0; clear hr0_0 hc0_0; have bL := Aside0.mk hr0_1; have bM := Aside0.mk hc0_1; clear hr0_1 hc0_1; have HB := Aside0.mk (Below.refl w.heap.size w); have H : (if (l0_0.length : Int) = 24 then (if (l0_1.length : Int) = 24 then ((CF_impl_MemoryOk_1.f k l0_0 ()).bind fun bA => (some (!bA))) else (some false)) else (some false)) = some r := h; clear h
  by_cases c2 : (l0_0.length : Int) = 24
  · rw [if_pos c2] at H
    have c2b0 : ((l0_0.length : Int) == 24) = true := beq_iff_eq.mpr c2; have c2b1 : ((l0_0.length : Int) != 24) = false := bne_eq_false_iff_eq.mpr c2; clear c2
    by_cases c3 : (l0_1.length : Int) = 24
    · rw [if_pos c3] at H
      have c3b0 : ((l0_1.length : Int) == 24) = true := beq_iff_eq.mpr c3; have c3b1 : ((l0_1.length : Int) != 24) = false := bne_eq_false_iff_eq.mpr c3; clear c3; replace H := Option.bind_eq_some_iff.mp H; obtain ⟨bA, A40, H⟩ := H; replace H : (some (!bA)) = some r := H; have A4 := Aside0.mk A40; clear A40; obtain rfl := Option.some.inj H
      go_enter Try.func21, Try.ntmps21
      go_wp2_with (first | ((with_reducible refine gate_dst (N := 1) rfl ?_); (try (refine gate_guard (by rfl) ?_; dsimp only)); refine bxe 1 #[.slice A0_0 l0_0.length c0_0, .slice A0_1 l0_1.length c0_1] 33 ?_; intro db hg w5 hbox hb; have bl := hbox; have dc := nge HB hg; have dd := nge HB hg; replace HB := nbs HB hb; clear hb hbox hg; obtain ⟨i7, i8⟩ := c2e bl; obtain ⟨i9, ja⟩ := z2_ bl) | (go_at_call 36; (with_reducible refine (CF_impl_MemoryOk_1.calls k _ _ l0_0 () bA _ ?side1 ?side2 A4.out).mono ?_); (case side1 => exact nCb bE HB); (case side2 => exact bF.out); rintro e w7 ⟨rfl, hb⟩; replace bl := nblk bl hb; replace HB := nbs HB hb; (try clear hb)))
      go_ret
      exact ⟨er_, nbe HB⟩
    · rw [if_neg c3] at H
      have c3b0 : ((l0_1.length : Int) == 24) = false := beq_eq_false_iff_ne.mpr c3; have c3b1 : ((l0_1.length : Int) != 24) = true := bne_iff_ne.mpr c3; obtain rfl := Option.some.inj H
      go_enter Try.func21, Try.ntmps21
      go_wp2_with (first | ((with_reducible refine gate_dst (N := 1) rfl ?_); (try (refine gate_guard (by rfl) ?_; dsimp only)); refine bxe 1 #[.slice A0_0 l0_0.length c0_0, .slice A0_1 l0_1.length c0_1] 33 ?_; intro db hg w8 hbox hb; have bl := hbox; have dc := nge HB hg; have dd := nge HB hg; replace HB := nbs HB hb; clear hb hbox hg; obtain ⟨d9, ea⟩ := c2e bl; obtain ⟨eb, ec⟩ := z2_ bl))
      go_ret
      exact ⟨er_, nbe HB⟩
  · rw [if_neg c2] at H
    have c2b0 : ((l0_0.length : Int) == 24) = false := beq_eq_false_iff_ne.mpr c2; have c2b1 : ((l0_0.length : Int) != 24) = true := bne_iff_ne.mpr c2; obtain rfl := Option.some.inj H
    go_enter Try.func21, Try.ntmps21
    go_wp2_with (first | ((with_reducible refine gate_dst (N := 1) rfl ?_); (try (refine gate_guard (by rfl) ?_; dsimp only)); refine bxe 1 #[.slice A0_0 l0_0.length c0_0, .slice A0_1 l0_1.length c0_1] 33 ?_; intro db hg ed hbox hb; have bl := hbox; have dc := nge HB hg; have dd := nge HB hg; replace HB := nbs HB hb; clear hb hbox hg; obtain ⟨jb, jc⟩ := c2e bl; obtain ⟨jd, je⟩ := z2_ bl))
    go_ret
    exact ⟨er_, nbe HB⟩

/-! ### Clone_Word: function 39 -/
def Clone_Word.f (l0 : List (S39)) : Option (List (S39)) := if l0.length < 2932031007402 then some l0 else none
set_option maxHeartbeats 8000000 in
set_option maxRecDepth 100000 in
theorem Clone_Word.calls (A0 : Option Addr) (c0 : Nat) (l0 : List (S39)) (r : List (S39)) (w : World) (hr0 : Kd.C k39 w A0 l0.length l0) (hc0 : l0.length ≤ c0) (h : Clone_Word.f l0 = some r) :
  Calls Try.prog 39 #[.slice A0 l0.length c0] w fun e w' => ∃ v0_ : Value, e = .returned (v0_) ∧ Kd.R k39 39 w' w.heap.size (fun _ => True) v0_ r ∧ Below w.heap.size w w' := by
 have HL : Aside0 (l0.length < 2932031007402) ∧ l0 = r := by
  unfold Clone_Word.f at h
  by_cases c : l0.length < 2932031007402
  · rw [if_pos c] at h
    exact ⟨⟨c⟩, by simpa using h⟩
  · rw [if_neg c] at h
    exact absurd h (by simp)
 obtain ⟨HL, rfl⟩ := HL; clear h; have bk := Aside0.mk hr0; clear hr0 hc0; have q_ : ∀ (w : World) (a : Option Addr) (n c n' c' : Nat), (binOp .eql 31 (.slice a n c) (.slice none n' c')).run Try.prog w = .ok (.bool a.isNone) w := fun w a n c n' c' => Lib.run_eql_slice_nil w _ _ a n c n' c' Try.underlying31
 cases A0 with
 | none =>
  have hl : l0 = [] := by
   cases l0 with
   | nil => rfl
   | cons x xs =>
    obtain ⟨ad, e, _⟩ := bk.out.2.2 (by simp); cases e
  subst hl; clear bk HL
  go_enter Try.func39, Try.ntmps39
  go_wp2
  go_ret
  exact ⟨_, rfl, Kd.R_nil _ _ _ _ _, Below.refl _ _⟩
 | some ad =>
  have HB := Aside0.mk (Below.refl w.heap.size w)
  go_enter Try.func39, Try.ntmps39
  go_wp2_with (first | ((with_reducible refine gate_dst (N := 5) rfl ?_); refine Kd.R_lit k39 _ 39 ?hg (N := 5) ?hd (xs := ([] : List (S39))) (inner := []) (ok := fun _ => True) (okp := fun _ => True) ?hr ?hp (fun _ hk => hk) trivial (Below.refl _ _) (Nat.le_refl _) (by simp) ?_; (case hd => rfl); (case hg => rfl); (case hr => first | (go_simp; done) | (go_simp; rfl)); (case hp => exact (Reps.none _ _)); intro v2 w2 ho hb hg_ hnew_; clear hg_ hnew_; have HO := Aside0.mk ho; have bB := Aside0.mk (below_step HB.out hb); clear ho HB; have HB := bB; clear bB; clear hb) | ((with_reducible refine gate_builtin (b := .append) (xs := #[.tmp 5, .tmp 6]) rfl ?_); at_builtin; refine Kd.R_append_rows k39 (w0 := w) w.heap.size rfl (.tmp 5) (.tmp 6) 31 39 (.agg #[(.int .i64 0), (.bool false), (.int .i64 0), (.int .i64 0), (.int .i64 0), (.int .i64 0)]) 48 rfl Try.underlying31 info39 rfl (by decide) (by omega) v2 ([] : List (S39)) l0 _ _ _ (fun _ => True) (fun _ => False) rfl rfl ?aO ?aR (fun _ _ h => h) (fun _ h => h.elim) ?aF ?aB ?aS ?aL ?_; (case aR => exact (Kd.C_below bk.out HB.out)); (case aB => exact HB.out); (case aF => exact (fun _ _ => trivial)); (case aO => exact HO.out); (case aS => exact below_size HB.out); (case aL => have := HL.out; simp only [List.length_nil]; omega); intro v3 w3 ho hb hg hat; clear hg hat; simp only [List.nil_append] at ho))
  go_ret
  exact ⟨_, rfl, ho, hb⟩

/-! ### Clone_bool: function 40 -/
def Clone_bool.f (l0 : List Bool) : Option (List Bool) := if l0.length < 140737488355328 then some l0 else none
set_option maxHeartbeats 8000000 in
set_option maxRecDepth 100000 in
theorem Clone_bool.calls (A0 : Option Addr) (c0 : Nat) (l0 : List Bool) (r : List Bool) (w : World) (hr0 : Kd.C Kd.bool w A0 l0.length l0) (hc0 : l0.length ≤ c0) (h : Clone_bool.f l0 = some r) :
  Calls Try.prog 40 #[.slice A0 l0.length c0] w fun e w' => ∃ v0_ : Value, e = .returned (v0_) ∧ Kd.R Kd.bool 4 w' w.heap.size (fun _ => True) v0_ r ∧ Below w.heap.size w w' := by
 have HL : Aside0 (l0.length < 140737488355328) ∧ l0 = r := by
  unfold Clone_bool.f at h
  by_cases c : l0.length < 140737488355328
  · rw [if_pos c] at h
    exact ⟨⟨c⟩, by simpa using h⟩
  · rw [if_neg c] at h
    exact absurd h (by simp)
 obtain ⟨HL, rfl⟩ := HL; clear h; have bk := Aside0.mk hr0; clear hr0 hc0; have q_ : ∀ (w : World) (a : Option Addr) (n c n' c' : Nat), (binOp .eql 23 (.slice a n c) (.slice none n' c')).run Try.prog w = .ok (.bool a.isNone) w := fun w a n c n' c' => Lib.run_eql_slice_nil w _ _ a n c n' c' Try.underlying23
 cases A0 with
 | none =>
  have hl : l0 = [] := by
   cases l0 with
   | nil => rfl
   | cons x xs =>
    obtain ⟨ad, e, _⟩ := bk.out.2.2 (by simp); cases e
  subst hl; clear bk HL
  go_enter Try.func40, Try.ntmps40
  go_wp2
  go_ret
  exact ⟨_, rfl, Kd.R_nil _ _ _ _ _, Below.refl _ _⟩
 | some ad =>
  have HB := Aside0.mk (Below.refl w.heap.size w)
  go_enter Try.func40, Try.ntmps40
  go_wp2_with (first | ((with_reducible refine gate_dst (N := 5) rfl ?_); refine Kd.R_lit Kd.bool _ 4 ?hg (N := 5) ?hd (xs := ([] : List Bool)) (inner := []) (ok := fun _ => True) (okp := fun _ => True) ?hr ?hp (fun _ hk => hk) trivial (Below.refl _ _) (Nat.le_refl _) (by simp) ?_; (case hd => rfl); (case hg => rfl); (case hr => first | (go_simp; done) | (go_simp; rfl)); (case hp => exact (Reps.none _ _)); intro v2 w2 ho hb hg_ hnew_; clear hg_ hnew_; have HO := Aside0.mk ho; have bB := Aside0.mk (below_step HB.out hb); clear ho HB; have HB := bB; clear bB; clear hb) | ((with_reducible refine gate_builtin (b := .append) (xs := #[.tmp 5, .tmp 6]) rfl ?_); at_builtin; refine Kd.R_append_rows Kd.bool (w0 := w) w.heap.size rfl (.tmp 5) (.tmp 6) 23 4 (.bool false) 1 rfl Try.underlying23 info4 rfl (by decide) (by omega) v2 ([] : List Bool) l0 _ _ _ (fun _ => True) (fun _ => False) rfl rfl ?aO ?aR (fun _ _ h => h) (fun _ h => h.elim) ?aF ?aB ?aS ?aL ?_; (case aR => exact (Kd.C_below bk.out HB.out)); (case aB => exact HB.out); (case aF => exact (fun _ _ => trivial)); (case aO => exact HO.out); (case aS => exact below_size HB.out); (case aL => have := HL.out; simp only [List.length_nil]; omega); intro v3 w3 ho hb hg hat; clear hg hat; simp only [List.nil_append] at ho))
  go_ret
  exact ⟨_, rfl, ho, hb⟩

/-! ### impl_cloneMemory: function 22 -/
def impl_cloneMemory.f (l0_0 : List (S39)) (l0_1 : List Bool) : Option ((List (S39)) × List Bool) := (Clone_Word.f l0_0).bind fun bq => ((Clone_bool.f l0_1).bind fun bn => (some (bq, bn)))
def impl_cloneMemory.T1 : Bool × List (List Nat × List Nat) := (true, [([], []), ([0], [0]), ([1], [1]), ([], []), ([3], [3]), ([4, 2], [4]), ([2, 5], [2, 5]), ([6, 5, 0, 1, 2, 3, 4, 5, 6], [6])])
def impl_cloneMemory.B1 : List Nat := [0, 1, 3, 0, 8, 31, 63, 127]
theorem impl_cloneMemory.tab1 : rtab .any (opsOf Try.f22 1) = impl_cloneMemory.T1 := by kernel_rfl
theorem impl_cloneMemory.bits1 : waitsOk impl_cloneMemory.T1.2 impl_cloneMemory.B1 = true := by kernel_rfl
set_option maxHeartbeats 8000000 in
set_option maxRecDepth 100000 in
theorem impl_cloneMemory.calls (A0_0 : Option Addr) (c0_0 : Nat) (l0_0 : List (S39)) (A0_1 : Option Addr) (c0_1 : Nat) (l0_1 : List Bool) (r1 : List (S39)) (r2 : List Bool) (w : World) (hr0_0 : Kd.C k39 w A0_0 l0_0.length l0_0) (hc0_0 : l0_0.length ≤ c0_0) (hr0_1 : Kd.C Kd.bool w A0_1 l0_1.length l0_1) (hc0_1 : l0_1.length ≤ c0_1) (h : impl_cloneMemory.f l0_0 l0_1 = some (r1, r2)) :
    Calls Try.prog 22 #[.agg #[.slice A0_0 l0_0.length c0_0, .slice A0_1 l0_1.length c0_1]] w fun e w' => ∃ v0_ v1_ : Value, e = .returned (.agg #[v0_, v1_]) ∧ Kd.R k39 39 w' w.heap.size (fun _ => True) v0_ r1 ∧ Kd.R Kd.bool 4 w' w.heap.size (fun _ => True) v1_ r2 ∧ Below w.heap.size w w' := by
  have hu33 := Try.underlying33; have bE := Aside0.mk hr0_0; have bF := Aside0.mk hc0_0; clear hr0_0 hc0_0; have bL := Aside0.mk hr0_1; have bM := Aside0.mk hc0_1; clear hr0_1 hc0_1; have HB := Aside0.mk (Below.refl w.heap.size w); have H : ((Clone_Word.f l0_0).bind fun bq => ((Clone_bool.f l0_1).bind fun bn => (some (bq, bn)))) = some (r1, r2) := h; clear h; replace H := Option.bind_eq_some_iff.mp H; obtain ⟨bq, A20, H⟩ := H; replace H : ((Clone_bool.f l0_1).bind fun bn => (some (bq, bn))) = some (r1, r2) := H; have A2 := Aside0.mk A20; clear A20; replace H := Option.bind_eq_some_iff.mp H; obtain ⟨bn, A30, H⟩ := H; replace H : (some (bq, bn)) = some (r1, r2) := H; have A3 := Aside0.mk A30; clear A30; simp only [Option.some.injEq, Prod.mk.injEq] at H; obtain ⟨rfl, rfl⟩ := H
  go_enter Try.func22, Try.ntmps22
  try go_wp2_with (first | ((with_reducible refine gate_dst (N := 1) rfl ?_); refine bxe 1 #[.slice A0_0 l0_0.length c0_0, .slice A0_1 l0_1.length c0_1] 33 ?_; intro de hg w4 hbox hb; have bg := hbox; have jf := nge HB hg; have jg := nge HB hg; replace HB := nbs HB hb; clear hb hbox hg) | ((with_reducible refine gate_dst (N := 2) rfl ?_); refine bxe 2 #[.slice none 0 0, .slice none 0 0] 33 ?_; intro bW hg w5 hbox hb; have bh := hbox; have jh := nge HB hg; have ji := nge HB hg; have bX := nlt bg hg; have eg := ngt bg hg; replace bg := nblk bg hb; replace HB := nbs HB hb; clear hb hbox hg))
  replace bg := Aside0.mk (blk_drew bg.out); replace bh := Aside0.mk (blk_drew bh.out); replace HB := Aside0.mk (below_drew1 HB.out); refine start_ (n := 8) (S := fun w' => w'.cell? ⟨de, 0, none⟩ = some (.slice A0_0 l0_0.length c0_0) ∧ w'.cell? ⟨de, 1, none⟩ = some (.slice A0_1 l0_1.length c0_1)) (ds := []) #[false, false, false, false, false, false, false, false] (by kernel_rfl) rfl rfl (c2e bg) (fun hHeld => ?_); refine with_tabW impl_cloneMemory.tab1 impl_cloneMemory.bits1 (fun HT_ HW_ => ?_); generalize w5.drew = w6 at bg bh HB hHeld ⊢; refine pure_ (i := 0) (N := some 3) (v := ?_) (a' := ?_) #[true, false, false, false, false, false, false, false] rfl rfl (any_of HT_.out (by kernel_rfl)) (fun _ _ _ h => h) (Or.inl ⟨by rfl, ?_⟩) ?_ ?_; rotate_left
  · intro w'
    go_simp; (with_reducible rfl)
  rotate_left
  · simp only [Act.put, List.setIfInBounds_toArray, List.set_cons_zero, List.set_cons_succ, i64_w, i32_w]
    rfl
  refine pure_ (i := 3) (N := some 6) (v := ?_) (a' := ?_) #[true, false, false, true, false, false, false, false] rfl rfl (any_of HT_.out (by kernel_rfl)) (fun _ _ _ h => h) (Or.inl ⟨by rfl, ?_⟩) ?_ ?_; rotate_left
  · intro w'
    go_simp; (with_reducible rfl)
  rotate_left
  · simp only [Act.put, List.setIfInBounds_toArray, List.set_cons_zero, List.set_cons_succ, i64_w, i32_w]
    rfl
  refine take_ (i := 1) (N := some 4) (v := ?_) (a' := ?_) #[true, true, false, true, false, false, false, false] rfl rfl (take_ofW HT_.out HW_.out (by kernel_rfl)) (fun _ _ _ h => h) (Or.inl ⟨by rfl, ?_⟩) hHeld ?_ ?_; rotate_left
  · rintro w' ⟨s0, s1⟩
    go_simp; (with_reducible rfl)
  rotate_left
  · simp only [Act.put, List.setIfInBounds_toArray, List.set_cons_zero, List.set_cons_succ, i64_w, i32_w]
    rfl
  refine take_ (i := 4) (N := some 7) (v := ?_) (a' := ?_) #[true, true, false, true, true, false, false, false] rfl rfl (take_ofW HT_.out HW_.out (by kernel_rfl)) (fun _ _ _ h => h) (Or.inl ⟨by rfl, ?_⟩) hHeld ?_ ?_; rotate_left
  · rintro w' ⟨s0, s1⟩
    go_simp; (with_reducible rfl)
  rotate_left
  · simp only [Act.put, List.setIfInBounds_toArray, List.set_cons_zero, List.set_cons_succ, i64_w, i32_w]
    rfl
  refine one_ (i := 2) (N := some 5) #[true, true, true, true, true, false, false, false] rfl rfl (one_of HT_.out (by kernel_rfl)) (by decide) (fun K hK => ?_); refine goesR Try.func39 (by kernel_rfl) rfl #[.slice A0_0 l0_0.length c0_0] (by rfl) rfl rfl ?_; (with_reducible refine (Clone_Word.calls _ _ l0_0 bq _ ?side1 ?side2 A2.out).mono ?_); (case side1 => exact nCb bE HB); (case side2 => exact bF.out); rintro e w7 ⟨jj, rfl, bC, hb⟩; refine ⟨_, rfl, ?_⟩; have bH := Aside0.mk (Kd.R_lower bC (bsz HB)); replace bg := nblk bg hb; replace bh := nblk bh hb; replace HB := nbs HB hb; (try clear hb); (try clear bC); refine hK.out _ _ (c2e bg) (fun hHeld => ?_); clear hK K; refine norm_ (a' := ?_) ?_ ?_; rotate_left
  · show Act.put _ (some 5) _ = _
    simp only [Act.put, List.setIfInBounds_toArray, List.set_cons_zero, List.set_cons_succ, i64_w, i32_w]; rfl
  refine one_ (i := 5) (N := some 8) #[true, true, true, true, true, true, false, false] rfl rfl (one_of HT_.out (by kernel_rfl)) (by decide) (fun K hK => ?_); refine goesR Try.func40 (by kernel_rfl) rfl #[.slice A0_1 l0_1.length c0_1] (by rfl) rfl rfl ?_; (with_reducible refine (Clone_bool.calls _ _ l0_1 bn _ ?side1 ?side2 A3.out).mono ?_); (case side1 => exact nCb bL HB); (case side2 => exact bM.out); rintro e w8 ⟨jk, rfl, bC, hb⟩; refine ⟨_, rfl, ?_⟩; have df := Aside0.mk (Kd.R_lower bC (bsz HB)); replace bH := nR bH hb; replace bg := nblk bg hb; replace bh := nblk bh hb; replace HB := nbs HB hb; (try clear hb); (try clear bC); obtain ⟨eh, ei, dg⟩ := Kd.R_slice df.out; (first | subst dg | (injection dg with f1_ f2_ f3_; have f4_ := f1_.symm; have f5_ := f3_.symm; clear f1_ f2_ f3_; subst f4_; subst f5_)); obtain ⟨ej, ek, dh⟩ := Kd.R_slice bH.out; (first | subst dh | (injection dh with f1_ f2_ f3_; have f4_ := f1_.symm; have f5_ := f3_.symm; clear f1_ f2_ f3_; subst f4_; subst f5_)); refine hK.out _ _ (c2e bg) (fun hHeld => ?_); clear hK K; refine norm_ (a' := ?_) ?_ ?_; rotate_left
  · show Act.put _ (some 8) _ = _
    simp only [Act.put, List.setIfInBounds_toArray, List.set_cons_zero, List.set_cons_succ, i64_w, i32_w]; rfl
  refine pure_ (i := 6) (N := some 9) (v := ?_) (a' := ?_) #[true, true, true, true, true, true, true, false] rfl rfl (any_of HT_.out (by kernel_rfl)) (fun _ _ _ h => h) (Or.inl ⟨by rfl, ?_⟩) ?_ ?_; rotate_left
  · intro w'
    go_simp; (with_reducible rfl)
  rotate_left
  · simp only [Act.put, List.setIfInBounds_toArray, List.set_cons_zero, List.set_cons_succ, i64_w, i32_w]
    rfl
  refine one_ (i := 7) (N := none) #[true, true, true, true, true, true, true, true] rfl rfl (one_of HT_.out (by kernel_rfl)) (by decide) (fun K hK => ?_); have hs11 : w8.cell? ⟨bW, 0, none⟩ = some (.slice none 0 0) := (blk_cell bh.out 0).trans rfl; have hfs11 := blk_frozen bh.out 0; have hns11_0 := bX.out; have hms11_0 := eg.out; have hs12 : w8.cell? ⟨bW, 1, none⟩ = some (.slice none 0 0) := (blk_cell bh.out 1).trans rfl; have hfs12 := blk_frozen bh.out 1; refine skip_ (w1 := ?_) (by rfl) rfl ?_ ?_; rotate_left
  · go_simp
    rfl
  refine hK.out _ _ ⟨(g2 bX.out hHeld.1), (g2 bX.out hHeld.2)⟩ (fun hHeld => ?_); clear hK K; refine done_ (done_of HT_.out (by kernel_rfl)) ?_
  try go_wp2
  refine bodyPost_ret (results_cell_row rfl _ _ bW 33 #[.slice ej bq.length ek, .slice eh bn.length ei] (0, 0) _ rfl (q2 bh) Try.underlying33 rfl (by kernel_rfl)) rfl ?_; exact ⟨_, _, er_, by (with_reducible repeat (first | apply Kd.R_alloc | apply Kd.R_drewN | apply Kd.R_drew)); exact Kd.R_mono (eR2_ (Kd.R_types bH.out bh.out (by decide))) (fun _ hk => trivial), by (with_reducible repeat (first | apply Kd.R_alloc | apply Kd.R_drewN | apply Kd.R_drew)); exact Kd.R_mono (eR2_ (Kd.R_types df.out bh.out (by decide))) (fun _ hk => trivial), nbe HB⟩

end Go.Proofs.Ytbpalnplcgmjjaa.PFnExactWrite
