-- Written by a program of this session (wip/patch.py turns a copy of the kit's print): the functions that the law reaches, and their walks.
import Derived.Test.YtbpalnplcgmjjaaPFnExactWritex0
import Derived.Test.YtbpalnplcgmjjaaPFnExactWritex2
import Derived.Test.YtbpalnplcgmjjaaCFnExactWrite
namespace Go.Proofs.Ytbpalnplcgmjjaa.PFnExactWrite
open Go.RowKit Go.Proofs.YtbpalnplcgmjjaaW.PrintWords Go.Proofs.YtbpalnplcgmjjaaW.PrintLast Go.Proofs.YtbpalnplcgmjjaaW.PrintMore Go.Proofs.YtbpalnplcgmjjaaW.Mine
attribute [local go_sem] max2_int min2_int max_two min_two max_three min_three max_four min_four   -- for this text's walks alone
set_option linter.unusedVariables false
set_option linter.unusedSimpArgs false

/-! ### spec_Try: function 29 -/
def spec_Try.j0 : Nat → Int → Int → Bool → Int → Bool → Int → Int → Int → Int → Option (Int)
 | 0, _, _, _, _, _, _, _, _, _ => none
 | k + 1, x1, x2, x7, ep, er, dg, dh, di, dj => if x7 = true then (some 1) else (if dj = 0 then (if (Go.bits .and .i64 di x2) = x2 then (if x1 < dg then (some 4) else (if x1 ≥ dh then (some 4) else (some 0))) else (some 3)) else (some 2))
def spec_Try.f (k : Nat) (a0_0 : Int) (a0_1 : Bool) (a0_2 : Int) (a0_3 : Int) (a0_4 : Int) (a0_5 : Int) (a1 : Int) (a2 : Int) : Option (Int) := (spec_WordOk.f k a0_0 a0_1 a0_2 a0_3 a0_4 a0_5).bind fun bw => (if bw = true then (spec_Try.j0 k a1 a2 (!a0_1) a0_0 a0_1 a0_2 a0_3 a0_4 a0_5) else (spec_Try.j0 k a1 a2 true a0_0 a0_1 a0_2 a0_3 a0_4 a0_5))
theorem spec_Try.mono_l : ∀ k, (∀ y0 y1 y2 y3 y4 y5 y6 y7 y8, LeO (spec_Try.j0 k y0 y1 y2 y3 y4 y5 y6 y7 y8) (spec_Try.j0 (k + 1) y0 y1 y2 y3 y4 y5 y6 y7 y8))
 | 0 => fun _ _ _ _ _ _ _ _ _ r h => by simp [spec_Try.j0] at h
 | k + 1 => by
  have ih0 := spec_Try.mono_l k
  ·intro y0 y1 y2 y3 y4 y5 y6 y7 y8
   unfold spec_Try.j0
   repeat' first
   | (with_reducible exact ih0 _ _ _ _ _ _ _ _ _)
   | (with_reducible exact spec_WordOk.mono _ _ _ _ _ _ _)
   | (with_reducible exact LeO.refl _)
   | (with_reducible exact LeO.none _)
   | (with_reducible refine LeO.ite ?_ ?_)
   | (with_reducible refine LeO.bind ?_ (fun _ => ?_))
   | exact ih0 _ _ _ _ _ _ _ _ _
   | exact spec_WordOk.mono _ _ _ _ _ _ _
   | exact LeO.none _
   | refine LeO.ite ?_ ?_
   | refine LeO.bind ?_ (fun _ => ?_)
theorem spec_Try.mono : ∀ a0 a1 a2 a3 a4 a5 a6 a7 k, LeO (spec_Try.f k a0 a1 a2 a3 a4 a5 a6 a7) (spec_Try.f (k + 1) a0 a1 a2 a3 a4 a5 a6 a7) := by
 intro a0 a1 a2 a3 a4 a5 a6 a7 k; have ih0 := spec_Try.mono_l k
 unfold spec_Try.f
 repeat' first
   | (with_reducible exact ih0 _ _ _ _ _ _ _ _ _)
   | (with_reducible exact spec_WordOk.mono _ _ _ _ _ _ _)
   | (with_reducible exact LeO.refl _)
   | (with_reducible exact LeO.none _)
   | (with_reducible refine LeO.ite ?_ ?_)
   | (with_reducible refine LeO.bind ?_ (fun _ => ?_))
   | exact ih0 _ _ _ _ _ _ _ _ _
   | exact spec_WordOk.mono _ _ _ _ _ _ _
   | exact LeO.none _
   | refine LeO.ite ?_ ?_
   | refine LeO.bind ?_ (fun _ => ?_)
set_option maxHeartbeats 8000000 in
set_option maxRecDepth 100000 in
theorem spec_Try.calls (k : Nat) (a0_0 : Int) (a0_1 : Bool) (a0_2 : Int) (a0_3 : Int) (a0_4 : Int) (a0_5 : Int) (a1 : Int) (a2 : Int) (r : Int) (w : World) (h : spec_Try.f k a0_0 a0_1 a0_2 a0_3 a0_4 a0_5 a1 a2 = some r) :
  Calls Try.prog 29 #[.agg #[.int .i64 a0_0, .bool a0_1, .int .i64 a0_2, .int .i64 a0_3, .int .i64 a0_4, .int .i64 a0_5], .int .i64 a1, .int .i64 a2] w fun e w' => e = .returned (.int .i64 r) ∧ Below w.heap.size w w' := by
 have hu39 := Try.underlying39; have HB := Aside0.mk (Below.refl w.heap.size w); have H : ((spec_WordOk.f k a0_0 a0_1 a0_2 a0_3 a0_4 a0_5).bind fun bw => (if bw = true then (spec_Try.j0 k a1 a2 (!a0_1) a0_0 a0_1 a0_2 a0_3 a0_4 a0_5) else (spec_Try.j0 k a1 a2 true a0_0 a0_1 a0_2 a0_3 a0_4 a0_5))) = some r := h; clear h; have bE := Aside0.mk H; clear H
 go_enter Try.func29, Try.ntmps29
 go_upto_region 1 with (first | ((with_reducible refine gate_dst (N := 3) rfl ?_); refine bxe 3 #[.int .i64 a0_0, .bool a0_1, .int .i64 a0_2, .int .i64 a0_3, .int .i64 a0_4, .int .i64 a0_5] 39 ?_; intro dk hg w5 hbox hb; have bd := hbox; have es := nge HB hg; have et := nge HB hg; replace HB := nbs HB hb; clear hb hbox hg))
 (try simp only [Act.put, List.setIfInBounds_toArray, List.set_cons_zero, List.set_cons_succ])
 go_cut [7] (fun v7 wc => ∃ (kq : Nat) (bB : Bool), v7 = .bool bB ∧ Aside0 (spec_Try.j0 kq a1 a2 bB a0_0 a0_1 a0_2 a0_3 a0_4 a0_5 = some r) ∧ Aside0 (kq ≤ k) ∧ Aside0 (wc.heap[dk]? = some (.cells #[.int .i64 a0_0, .bool a0_1, .int .i64 a0_2, .int .i64 a0_3, .int .i64 a0_4, .int .i64 a0_5] 39 (0, 0))) ∧ Aside0 (Below w.heap.size w wc))
 case first =>
  have H := bE.out; clear bE; replace H := Option.bind_eq_some_iff.mp H; obtain ⟨bw, A60, H⟩ := H; replace H : (if bw = true then (spec_Try.j0 k a1 a2 (!a0_1) a0_0 a0_1 a0_2 a0_3 a0_4 a0_5) else (spec_Try.j0 k a1 a2 true a0_0 a0_1 a0_2 a0_3 a0_4 a0_5)) = some r := H; have A6 := Aside0.mk A60; clear A60
  by_cases c7 : bw = true
  ·subst c7
   have H1 : (spec_Try.j0 k a1 a2 (!a0_1) a0_0 a0_1 a0_2 a0_3 a0_4 a0_5) = some r := by rw [if_pos rfl] at H; exact H
   clear H; have H := H1; clear H1; have H' := Aside0.mk H; clear H; obtain ⟨bT, bU, bV, bW, bX, bY⟩ := c6e bd; obtain ⟨bZ, b0, b1, b2, b3, b4⟩ := z6_ bd
   go_wp2_with (first | ((with_reducible refine gate_callee (f := 32) rfl ?_); refine goesM (some 9) rfl rfl Try.func32 (by kernel_rfl) rfl #[.agg #[.int .i64 a0_0, .bool a0_1, .int .i64 a0_2, .int .i64 a0_3, .int .i64 a0_4, .int .i64 a0_5]] rfl ?_; (with_reducible refine (spec_WordOk.calls k a0_0 a0_1 a0_2 a0_3 a0_4 a0_5 true _ A6.out).mono ?_); rintro e w9 ⟨rfl, hb⟩; refine ⟨_, rfl, ?_⟩; replace bd := nblk bd hb; replace HB := nbs HB hb; (try clear hb); obtain ⟨dl, dm, dn, dp, dq, dr⟩ := c6e bd; obtain ⟨ds, dt, du, dv, dw, dx⟩ := z6_ bd))
   go_meet
   case rel => exact ⟨_, (!a0_1), (by first | rfl | (simp; done) | (simp [*]; done)), H', ⟨by first | omega | exact Nat.le_refl _⟩, ⟨nb bd⟩, ⟨nbe HB⟩⟩
  ·replace c7 := Bool.eq_false_iff.mpr c7
   subst c7; have H1 : (spec_Try.j0 k a1 a2 true a0_0 a0_1 a0_2 a0_3 a0_4 a0_5) = some r := by rw [if_neg (show ¬ (false = true) by decide)] at H; exact H
   clear H; have H := H1; clear H1; have H' := Aside0.mk H; clear H; obtain ⟨dy, dz, dA, dB, dC, dD⟩ := c6e bd; obtain ⟨dE, dF, dG, dH, dI, dJ⟩ := z6_ bd
   go_wp2_with (first | ((with_reducible refine gate_callee (f := 32) rfl ?_); refine goesM (some 9) rfl rfl Try.func32 (by kernel_rfl) rfl #[.agg #[.int .i64 a0_0, .bool a0_1, .int .i64 a0_2, .int .i64 a0_3, .int .i64 a0_4, .int .i64 a0_5]] rfl ?_; (with_reducible refine (spec_WordOk.calls k a0_0 a0_1 a0_2 a0_3 a0_4 a0_5 false _ A6.out).mono ?_); rintro e dK ⟨rfl, hb⟩; refine ⟨_, rfl, ?_⟩; replace bd := nblk bd hb; replace HB := nbs HB hb; (try clear hb)))
   go_meet
   case rel => exact ⟨_, (true), (by first | rfl | (simp; done) | (simp [*]; done)), H', ⟨by first | omega | exact Nat.le_refl _⟩, ⟨nb bd⟩, ⟨nbe HB⟩⟩
 case rest =>
  clear bE; try clear c2
  try clear p2
  try clear c3
  try clear c7
  try clear dl
  try clear dm
  try clear dn
  try clear dp
  try clear dq
  try clear dr
  try clear dy
  try clear dz
  try clear dA
  try clear dB
  try clear dC
  try clear dD
  try clear bT
  try clear bU
  try clear bV
  try clear bW
  try clear bX
  try clear bY
  try clear ds
  try clear dt
  try clear du
  try clear dv
  try clear dw
  try clear dx
  try clear dE
  try clear dF
  try clear dG
  try clear dH
  try clear dI
  try clear dJ
  try clear bZ
  try clear b0
  try clear b1
  try clear b2
  try clear b3
  try clear b4
  obtain ⟨kq, bB, rfl, HA, eu, bd, HB⟩ := hcut
  cases kq with
  | zero => exact absurd HA.out (by simp [spec_Try.j0])
  | succ kj3 =>
   have H := HA.out; clear HA; simp only [spec_Try.j0] at H
   by_cases c13 : bB = true
   ·subst c13
    have H1 : (some 1) = some r := by rw [if_pos rfl] at H; exact H
    clear H; have H := H1; clear H1; obtain rfl := Option.some.inj H; go_wp2
    go_ret
    exact ⟨er_, nbe HB⟩
   ·replace c13 := Bool.eq_false_iff.mpr c13
    subst c13; have H1 : (if a0_5 = 0 then (if (Go.bits .and .i64 a0_4 a2) = a2 then (if a1 < a0_2 then (some 4) else (if a1 ≥ a0_3 then (some 4) else (some 0))) else (some 3)) else (some 2)) = some r := by rw [if_neg (show ¬ (false = true) by decide)] at H; exact H
    clear H; have H := H1; clear H1
    by_cases c14 : a0_5 = 0
    ·rw [if_pos c14] at H
     have c14b0 : (a0_5 == 0) = true := beq_iff_eq.mpr c14; have c14b1 : (a0_5 != 0) = false := bne_eq_false_iff_eq.mpr c14; clear c14
     by_cases c15 : (Go.bits .and .i64 a0_4 a2) = a2
     ·rw [if_pos c15] at H
      have c15b0 : ((Go.bits .and .i64 a0_4 a2) == a2) = true := beq_iff_eq.mpr c15; have c15b1 : ((Go.bits .and .i64 a0_4 a2) != a2) = false := bne_eq_false_iff_eq.mpr c15; clear c15
      by_cases c16 : a1 < a0_2
      ·rw [if_pos c16] at H
       have c16b0 : decide (a1 < a0_2) = true := decide_eq_true c16; clear c16; obtain rfl := Option.some.inj H; obtain ⟨ev, ew, ex, ey, ez, eA⟩ := c6e bd; obtain ⟨eB, eC, eD, eE, eF, eG⟩ := z6_ bd; go_wp2
       go_ret
       exact ⟨er_, nbe HB⟩
      ·rw [if_neg c16] at H
       have c16b0 : decide (a1 < a0_2) = false := decide_eq_false c16; clear c16
       by_cases c18 : a1 ≥ a0_3
       ·rw [if_pos c18] at H
        have c18b0 : decide (a0_3 ≤ a1) = true := decide_eq_true c18; clear c18; obtain rfl := Option.some.inj H; obtain ⟨dL, dM, eH, eI, eJ, eK⟩ := c6e bd; obtain ⟨dN, dO, eL, eM, eN, eO⟩ := z6_ bd; go_wp2
        go_ret
        exact ⟨er_, nbe HB⟩
       ·rw [if_neg c18] at H
        have c18b0 : decide (a0_3 ≤ a1) = false := decide_eq_false c18; clear c18; obtain rfl := Option.some.inj H; obtain ⟨dP, dQ, dR, dS, dT, dU⟩ := c6e bd; obtain ⟨dV, dW, dX, dY, dZ, d0⟩ := z6_ bd; go_wp2
        go_ret
        exact ⟨er_, nbe HB⟩
     ·rw [if_neg c15] at H
      have c15b0 : ((Go.bits .and .i64 a0_4 a2) == a2) = false := beq_eq_false_iff_ne.mpr c15; have c15b1 : ((Go.bits .and .i64 a0_4 a2) != a2) = true := bne_iff_ne.mpr c15; obtain rfl := Option.some.inj H; obtain ⟨d1, d2, d3, d4, d5, d6⟩ := c6e bd; obtain ⟨d7, d8, d9, ea, eb, ec⟩ := z6_ bd; go_wp2
      go_ret
      exact ⟨er_, nbe HB⟩
    ·rw [if_neg c14] at H
     have c14b0 : (a0_5 == 0) = false := beq_eq_false_iff_ne.mpr c14; have c14b1 : (a0_5 != 0) = true := bne_iff_ne.mpr c14; obtain rfl := Option.some.inj H; obtain ⟨eP, eQ, eR, eS, eT, eU⟩ := c6e bd; obtain ⟨eV, eW, eX, eY, eZ, e0⟩ := z6_ bd; go_wp2
     go_ret
     exact ⟨er_, nbe HB⟩

/-! ### spec_MayPut: function 31 -/
def spec_MayPut.f (a0_0 : Int) (a0_1 : Bool) (a0_2 : Int) (a0_3 : Int) (a0_4 : Int) (a0_5 : Int) (a1_0 : Int) (a1_1 : Bool) (a1_2 : Int) (a1_3 : Int) (a1_4 : Int) (a1_5 : Int) : Option (Bool) := if a1_1 = true then (some ((Go.bits .and .i64 a0_4 16) != 0)) else (some true)
set_option maxHeartbeats 8000000 in
set_option maxRecDepth 100000 in
theorem spec_MayPut.calls (a0_0 : Int) (a0_1 : Bool) (a0_2 : Int) (a0_3 : Int) (a0_4 : Int) (a0_5 : Int) (a1_0 : Int) (a1_1 : Bool) (a1_2 : Int) (a1_3 : Int) (a1_4 : Int) (a1_5 : Int) (r : Bool) (w : World) (h : spec_MayPut.f a0_0 a0_1 a0_2 a0_3 a0_4 a0_5 a1_0 a1_1 a1_2 a1_3 a1_4 a1_5 = some r) :
  Calls Try.prog 31 #[.agg #[.int .i64 a0_0, .bool a0_1, .int .i64 a0_2, .int .i64 a0_3, .int .i64 a0_4, .int .i64 a0_5], .agg #[.int .i64 a1_0, .bool a1_1, .int .i64 a1_2, .int .i64 a1_3, .int .i64 a1_4, .int .i64 a1_5]] w fun e w' => e = .returned (.bool r) ∧ Below w.heap.size w w' := by
 have hu39 := Try.underlying39; have HB := Aside0.mk (Below.refl w.heap.size w); have H : (if a1_1 = true then (some ((Go.bits .and .i64 a0_4 16) != 0)) else (some true)) = some r := h; clear h
 by_cases c3 : a1_1 = true
 ·subst c3
  have H1 : (some ((Go.bits .and .i64 a0_4 16) != 0)) = some r := by rw [if_pos rfl] at H; exact H
  clear H; have H := H1; clear H1; obtain rfl := Option.some.inj H
  go_enter Try.func31, Try.ntmps31
  go_wp2_with (first | ((with_reducible refine gate_dst (N := 2) rfl ?_); refine bxe 2 #[.int .i64 a0_0, .bool a0_1, .int .i64 a0_2, .int .i64 a0_3, .int .i64 a0_4, .int .i64 a0_5] 39 ?_; intro ed hg w4 hbox hb; have bj := hbox; have ee := nge HB hg; have ef := nge HB hg; replace HB := nbs HB hb; clear hb hbox hg) | ((with_reducible refine gate_dst (N := 3) rfl ?_); refine bxe 3 #[.int .i64 a1_0, .bool true, .int .i64 a1_2, .int .i64 a1_3, .int .i64 a1_4, .int .i64 a1_5] 39 ?_; intro eg hg w5 hbox hb; have bA := hbox; have eh := nge HB hg; have ei := nge HB hg; have bF := nlt bj hg; have bG := ngt bj hg; replace bj := nblk bj hb; replace HB := nbs HB hb; clear hb hbox hg; have e1 := bG.out; have e2 := bF.out; obtain ⟨e3, e4, e5, e6, e7, e8⟩ := c6e bA; obtain ⟨e9, ga, gb, gc, gd, gf⟩ := z6_ bA; obtain ⟨bT, bU, bV, bW, bX, bY⟩ := c6e bj; obtain ⟨bZ, b0, b1, b2, b3, b4⟩ := z6_ bj))
  go_ret
  exact ⟨er_, nbe HB⟩
 ·replace c3 := Bool.eq_false_iff.mpr c3
  subst c3; have H1 : (some true) = some r := by rw [if_neg (show ¬ (false = true) by decide)] at H; exact H
  clear H; have H := H1; clear H1; obtain rfl := Option.some.inj H
  go_enter Try.func31, Try.ntmps31
  go_wp2_with (first | ((with_reducible refine gate_dst (N := 2) rfl ?_); refine bxe 2 #[.int .i64 a0_0, .bool a0_1, .int .i64 a0_2, .int .i64 a0_3, .int .i64 a0_4, .int .i64 a0_5] 39 ?_; intro ed hg w9 hbox hb; have bj := hbox; have ee := nge HB hg; have ef := nge HB hg; replace HB := nbs HB hb; clear hb hbox hg) | ((with_reducible refine gate_dst (N := 3) rfl ?_); refine bxe 3 #[.int .i64 a1_0, .bool false, .int .i64 a1_2, .int .i64 a1_3, .int .i64 a1_4, .int .i64 a1_5] 39 ?_; intro eg hg gg hbox hb; have bA := hbox; have eh := nge HB hg; have ei := nge HB hg; have bF := nlt bj hg; have bG := ngt bj hg; replace bj := nblk bj hb; replace HB := nbs HB hb; clear hb hbox hg; have gh := bG.out; have gi := bF.out; obtain ⟨gj, gl, gm, gn, gp, gq⟩ := c6e bA; obtain ⟨gr, gs, gt, gu, gv, gw⟩ := z6_ bA))
  go_ret
  exact ⟨er_, nbe HB⟩

/-! ### spec_l8Write: function 14 -/
def spec_l8Write.f (k : Nat) (l0_0 : List (S39)) (l0_1 : List Bool) (a1_0 : Int) (a1_1 : Bool) (a1_2 : Int) (a1_3 : Int) (a1_4 : Int) (a1_5 : Int) (a2 : Int) (a3_0 : Int) (a3_1 : Bool) (a3_2 : Int) (a3_3 : Int) (a3_4 : Int) (a3_5 : Int) : Option (Int) := (spec_Try.f k a1_0 a1_1 a1_2 a1_3 a1_4 a1_5 a2 2).bind fun bh => (if bh = 0 then ((spec_l1In.f a2 0 (wrap64 ((l0_0.length : Int) - 1))).bind fun bl => (if bl = true then ((spec_MayPut.f a1_0 a1_1 a1_2 a1_3 a1_4 a1_5 a3_0 a3_1 a3_2 a3_3 a3_4 a3_5).bind fun bi => (if bi = true then (some 0) else (some 3))) else (some 4))) else (some bh))
theorem spec_l8Write.mono : ∀ a0 a1 a2 a3 a4 a5 a6 a7 a8 a9 a10 a11 a12 a13 a14 k, LeO (spec_l8Write.f k a0 a1 a2 a3 a4 a5 a6 a7 a8 a9 a10 a11 a12 a13 a14) (spec_l8Write.f (k + 1) a0 a1 a2 a3 a4 a5 a6 a7 a8 a9 a10 a11 a12 a13 a14) := by
 intro a0 a1 a2 a3 a4 a5 a6 a7 a8 a9 a10 a11 a12 a13 a14 k
 unfold spec_l8Write.f
 repeat' first
   | (with_reducible exact spec_Try.mono _ _ _ _ _ _ _ _ _)
   | (with_reducible exact LeO.refl _)
   | (with_reducible exact LeO.none _)
   | (with_reducible refine LeO.ite ?_ ?_)
   | (with_reducible refine LeO.bind ?_ (fun _ => ?_))
   | exact spec_Try.mono _ _ _ _ _ _ _ _ _
   | exact LeO.none _
   | refine LeO.ite ?_ ?_
   | refine LeO.bind ?_ (fun _ => ?_)
set_option maxHeartbeats 8000000 in
set_option maxRecDepth 100000 in
theorem spec_l8Write.calls (k : Nat) (A0_0 : Option Addr) (c0_0 : Nat) (l0_0 : List (S39)) (A0_1 : Option Addr) (c0_1 : Nat) (l0_1 : List Bool) (a1_0 : Int) (a1_1 : Bool) (a1_2 : Int) (a1_3 : Int) (a1_4 : Int) (a1_5 : Int) (a2 : Int) (a3_0 : Int) (a3_1 : Bool) (a3_2 : Int) (a3_3 : Int) (a3_4 : Int) (a3_5 : Int) (r : Int) (w : World) (hr0_0 : Kd.C k39 w A0_0 l0_0.length l0_0) (hc0_0 : l0_0.length ≤ c0_0) (hr0_1 : Kd.C Kd.bool w A0_1 l0_1.length l0_1) (hc0_1 : l0_1.length ≤ c0_1) (h : spec_l8Write.f k l0_0 l0_1 a1_0 a1_1 a1_2 a1_3 a1_4 a1_5 a2 a3_0 a3_1 a3_2 a3_3 a3_4 a3_5 = some r) :
  Calls Try.prog 14 #[.agg #[.slice A0_0 l0_0.length c0_0, .slice A0_1 l0_1.length c0_1], .agg #[.int .i64 a1_0, .bool a1_1, .int .i64 a1_2, .int .i64 a1_3, .int .i64 a1_4, .int .i64 a1_5], .int .i64 a2, .agg #[.int .i64 a3_0, .bool a3_1, .int .i64 a3_2, .int .i64 a3_3, .int .i64 a3_4, .int .i64 a3_5]] w fun e w' => e = .returned (.int .i64 r) ∧ Below w.heap.size w w' := by
 have hu33 := Try.underlying33; have hu39 := Try.underlying39; have bH := Aside0.mk hr0_0; have ej := Aside0.mk hc0_0; clear hr0_0 hc0_0; have ek := Aside0.mk hr0_1; have el := Aside0.mk hc0_1; clear hr0_1 hc0_1; have HB := Aside0.mk (Below.refl w.heap.size w); have H : ((spec_Try.f k a1_0 a1_1 a1_2 a1_3 a1_4 a1_5 a2 2).bind fun bh => (if bh = 0 then ((spec_l1In.f a2 0 (wrap64 ((l0_0.length : Int) - 1))).bind fun bl => (if bl = true then ((spec_MayPut.f a1_0 a1_1 a1_2 a1_3 a1_4 a1_5 a3_0 a3_1 a3_2 a3_3 a3_4 a3_5).bind fun bi => (if bi = true then (some 0) else (some 3))) else (some 4))) else (some bh))) = some r := h; clear h; replace H := Option.bind_eq_some_iff.mp H; obtain ⟨bh, A50, H⟩ := H; replace H : (if bh = 0 then ((spec_l1In.f a2 0 (wrap64 ((l0_0.length : Int) - 1))).bind fun bl => (if bl = true then ((spec_MayPut.f a1_0 a1_1 a1_2 a1_3 a1_4 a1_5 a3_0 a3_1 a3_2 a3_3 a3_4 a3_5).bind fun bi => (if bi = true then (some 0) else (some 3))) else (some 4))) else (some bh)) = some r := H; have A5 := Aside0.mk A50; clear A50
 by_cases c6 : bh = 0
 ·rw [if_pos c6] at H
  have c6b0 : (bh == 0) = true := beq_iff_eq.mpr c6; have c6b1 : (bh != 0) = false := bne_eq_false_iff_eq.mpr c6; clear c6; replace H := Option.bind_eq_some_iff.mp H; obtain ⟨bl, A70, H⟩ := H; replace H : (if bl = true then ((spec_MayPut.f a1_0 a1_1 a1_2 a1_3 a1_4 a1_5 a3_0 a3_1 a3_2 a3_3 a3_4 a3_5).bind fun bi => (if bi = true then (some 0) else (some 3))) else (some 4)) = some r := H; have A7 := Aside0.mk A70; clear A70
  by_cases c8 : bl = true
  ·subst c8
   have H1 : ((spec_MayPut.f a1_0 a1_1 a1_2 a1_3 a1_4 a1_5 a3_0 a3_1 a3_2 a3_3 a3_4 a3_5).bind fun bi => (if bi = true then (some 0) else (some 3))) = some r := by rw [if_pos rfl] at H; exact H
   clear H; have H := H1; clear H1; replace H := Option.bind_eq_some_iff.mp H; obtain ⟨bi, A90, H⟩ := H; replace H : (if bi = true then (some 0) else (some 3)) = some r := H; have A9 := Aside0.mk A90; clear A90
   by_cases c10 : bi = true
   ·subst c10
    have H1 : (some 0) = some r := by rw [if_pos rfl] at H; exact H
    clear H; have H := H1; clear H1; obtain rfl := Option.some.inj H
    go_enter Try.func14, Try.ntmps14
    go_wp2_with (first | ((with_reducible refine gate_dst (N := 4) rfl ?_); refine bxe 4 #[.slice A0_0 l0_0.length c0_0, .slice A0_1 l0_1.length c0_1] 33 ?_; intro bI hg gx hbox hb; have ba := hbox; have bJ := nge HB hg; have bK := nge HB hg; replace HB := nbs HB hb; clear hb hbox hg) | ((with_reducible refine gate_dst (N := 5) rfl ?_); refine bxe 5 #[.int .i64 a1_0, .bool a1_1, .int .i64 a1_2, .int .i64 a1_3, .int .i64 a1_4, .int .i64 a1_5] 39 ?_; intro bL hg dK hbox hb; have bb := hbox; have bM := nge HB hg; have bN := nge HB hg; have bm := nlt ba hg; have bn := ngt ba hg; replace ba := nblk ba hb; replace HB := nbs HB hb; clear hb hbox hg) | ((with_reducible refine gate_dst (N := 7) rfl ?_); refine bxe 7 #[.int .i64 a3_0, .bool a3_1, .int .i64 a3_2, .int .i64 a3_3, .int .i64 a3_4, .int .i64 a3_5] 39 ?_; intro bO hg gy hbox hb; have bf := hbox; have bP := nge HB hg; have bQ := nge HB hg; have bx := nlt ba hg; have bz := ngt ba hg; have bo := nlt bb hg; have bp := ngt bb hg; replace ba := nblk ba hb; replace bb := nblk bb hb; replace HB := nbs HB hb; clear hb hbox hg; have gz := bn.out; have gA := bm.out; have gB := bo.out; have gC := bp.out; obtain ⟨gD, gE, gF, gG, gH, gI⟩ := c6e bb; obtain ⟨gJ, gK, gL, gM, gN, gO⟩ := z6_ bb) | ((with_reducible refine gate_callee (f := 29) rfl ?_); refine goesM (some 12) rfl rfl Try.func29 (by kernel_rfl) rfl #[.agg #[.int .i64 a1_0, .bool a1_1, .int .i64 a1_2, .int .i64 a1_3, .int .i64 a1_4, .int .i64 a1_5], .int .i64 a2, .int .i64 2] rfl ?_; (with_reducible refine (spec_Try.calls k a1_0 a1_1 a1_2 a1_3 a1_4 a1_5 a2 2 bh _ A5.out).mono ?_); rintro e gP ⟨rfl, hb⟩; refine ⟨_, rfl, ?_⟩; replace ba := nblk ba hb; replace bb := nblk bb hb; replace bf := nblk bf hb; replace HB := nbs HB hb; (try clear hb); have gQ := bx.out; have gR := bz.out; obtain ⟨dL, dM⟩ := c2e ba; obtain ⟨dN, dO⟩ := z2_ ba) | ((with_reducible refine gate_callee (f := 30) rfl ?_); refine goesM (some 23) rfl rfl Try.func30 (by kernel_rfl) rfl #[.int .i64 a2, .int .i64 0, .int .i64 (wrap64 ((l0_0.length : Int) - 1))] rfl ?_; (with_reducible refine (spec_l1In.calls a2 0 (wrap64 ((l0_0.length : Int) - 1)) true _ A7.out).mono ?_); rintro e w' ⟨rfl, ⟨nd, rfl⟩⟩; refine ⟨_, rfl, ?_⟩; obtain ⟨dP, dQ, dR, dS, dT, dU⟩ := c6e bb; obtain ⟨dV, dW, dX, dY, dZ, d0⟩ := z6_ bb; obtain ⟨d1, d2, d3, d4, d5, d6⟩ := c6e bf; obtain ⟨d7, d8, d9, ea, eb, ec⟩ := z6_ bf) | ((with_reducible refine gate_callee (f := 31) rfl ?_); refine goesM (some 28) rfl rfl Try.func31 (by kernel_rfl) rfl #[.agg #[.int .i64 a1_0, .bool a1_1, .int .i64 a1_2, .int .i64 a1_3, .int .i64 a1_4, .int .i64 a1_5], .agg #[.int .i64 a3_0, .bool a3_1, .int .i64 a3_2, .int .i64 a3_3, .int .i64 a3_4, .int .i64 a3_5]] rfl ?_; (with_reducible refine (spec_MayPut.calls a1_0 a1_1 a1_2 a1_3 a1_4 a1_5 a3_0 a3_1 a3_2 a3_3 a3_4 a3_5 true _ A9.out).mono ?_); rintro e gS ⟨rfl, hb⟩; refine ⟨_, rfl, ?_⟩; replace ba := nblk ba hb; replace bb := nblk bb hb; replace bf := nblk bf hb; replace HB := nbs HB hb; (try clear hb)))
    go_ret
    exact ⟨er_, nbe HB⟩
   ·replace c10 := Bool.eq_false_iff.mpr c10
    subst c10; have H1 : (some 3) = some r := by rw [if_neg (show ¬ (false = true) by decide)] at H; exact H
    clear H; have H := H1; clear H1; obtain rfl := Option.some.inj H
    go_enter Try.func14, Try.ntmps14
    go_wp2_with (first | ((with_reducible refine gate_dst (N := 4) rfl ?_); refine bxe 4 #[.slice A0_0 l0_0.length c0_0, .slice A0_1 l0_1.length c0_1] 33 ?_; intro bI hg gT hbox hb; have ba := hbox; have bJ := nge HB hg; have bK := nge HB hg; replace HB := nbs HB hb; clear hb hbox hg) | ((with_reducible refine gate_dst (N := 5) rfl ?_); refine bxe 5 #[.int .i64 a1_0, .bool a1_1, .int .i64 a1_2, .int .i64 a1_3, .int .i64 a1_4, .int .i64 a1_5] 39 ?_; intro bL hg gU hbox hb; have bb := hbox; have bM := nge HB hg; have bN := nge HB hg; have bm := nlt ba hg; have bn := ngt ba hg; replace ba := nblk ba hb; replace HB := nbs HB hb; clear hb hbox hg) | ((with_reducible refine gate_dst (N := 7) rfl ?_); refine bxe 7 #[.int .i64 a3_0, .bool a3_1, .int .i64 a3_2, .int .i64 a3_3, .int .i64 a3_4, .int .i64 a3_5] 39 ?_; intro bO hg gV hbox hb; have bf := hbox; have bP := nge HB hg; have bQ := nge HB hg; have bx := nlt ba hg; have bz := ngt ba hg; have bo := nlt bb hg; have bp := ngt bb hg; replace ba := nblk ba hb; replace bb := nblk bb hb; replace HB := nbs HB hb; clear hb hbox hg; have gW := bn.out; have gX := bm.out; have gY := bo.out; have gZ := bp.out; obtain ⟨g0, g1, g2, g3, g4, g5⟩ := c6e bb; obtain ⟨g6, g7, g8, g9, ha, hc⟩ := z6_ bb) | ((with_reducible refine gate_callee (f := 29) rfl ?_); refine goesM (some 12) rfl rfl Try.func29 (by kernel_rfl) rfl #[.agg #[.int .i64 a1_0, .bool a1_1, .int .i64 a1_2, .int .i64 a1_3, .int .i64 a1_4, .int .i64 a1_5], .int .i64 a2, .int .i64 2] rfl ?_; (with_reducible refine (spec_Try.calls k a1_0 a1_1 a1_2 a1_3 a1_4 a1_5 a2 2 bh _ A5.out).mono ?_); rintro e hd ⟨rfl, hb⟩; refine ⟨_, rfl, ?_⟩; replace ba := nblk ba hb; replace bb := nblk bb hb; replace bf := nblk bf hb; replace HB := nbs HB hb; (try clear hb); have hf := bx.out; have hh := bz.out; obtain ⟨hj, hl⟩ := c2e ba; obtain ⟨hm, hn⟩ := z2_ ba) | ((with_reducible refine gate_callee (f := 30) rfl ?_); refine goesM (some 23) rfl rfl Try.func30 (by kernel_rfl) rfl #[.int .i64 a2, .int .i64 0, .int .i64 (wrap64 ((l0_0.length : Int) - 1))] rfl ?_; (with_reducible refine (spec_l1In.calls a2 0 (wrap64 ((l0_0.length : Int) - 1)) true _ A7.out).mono ?_); rintro e w' ⟨rfl, ⟨nd, rfl⟩⟩; refine ⟨_, rfl, ?_⟩; obtain ⟨ho, hp, hq, hr, hs, ht⟩ := c6e bb; obtain ⟨hu, hv, hw, hx, hy, hz⟩ := z6_ bb; obtain ⟨hA, hB, hC, hD, hE, hF⟩ := c6e bf; obtain ⟨hG, hH, hI, hJ, hK, hL⟩ := z6_ bf) | ((with_reducible refine gate_callee (f := 31) rfl ?_); refine goesM (some 28) rfl rfl Try.func31 (by kernel_rfl) rfl #[.agg #[.int .i64 a1_0, .bool a1_1, .int .i64 a1_2, .int .i64 a1_3, .int .i64 a1_4, .int .i64 a1_5], .agg #[.int .i64 a3_0, .bool a3_1, .int .i64 a3_2, .int .i64 a3_3, .int .i64 a3_4, .int .i64 a3_5]] rfl ?_; (with_reducible refine (spec_MayPut.calls a1_0 a1_1 a1_2 a1_3 a1_4 a1_5 a3_0 a3_1 a3_2 a3_3 a3_4 a3_5 false _ A9.out).mono ?_); rintro e hM ⟨rfl, hb⟩; refine ⟨_, rfl, ?_⟩; replace ba := nblk ba hb; replace bb := nblk bb hb; replace bf := nblk bf hb; replace HB := nbs HB hb; (try clear hb)))
    go_ret
    exact ⟨er_, nbe HB⟩
  ·replace c8 := Bool.eq_false_iff.mpr c8
   subst c8; have H1 : (some 4) = some r := by rw [if_neg (show ¬ (false = true) by decide)] at H; exact H
   clear H; have H := H1; clear H1; obtain rfl := Option.some.inj H
   go_enter Try.func14, Try.ntmps14
   go_wp2_with (first | ((with_reducible refine gate_dst (N := 4) rfl ?_); refine bxe 4 #[.slice A0_0 l0_0.length c0_0, .slice A0_1 l0_1.length c0_1] 33 ?_; intro bI hg hN hbox hb; have ba := hbox; have bJ := nge HB hg; have bK := nge HB hg; replace HB := nbs HB hb; clear hb hbox hg) | ((with_reducible refine gate_dst (N := 5) rfl ?_); refine bxe 5 #[.int .i64 a1_0, .bool a1_1, .int .i64 a1_2, .int .i64 a1_3, .int .i64 a1_4, .int .i64 a1_5] 39 ?_; intro bL hg hO hbox hb; have bb := hbox; have bM := nge HB hg; have bN := nge HB hg; have bm := nlt ba hg; have bn := ngt ba hg; replace ba := nblk ba hb; replace HB := nbs HB hb; clear hb hbox hg) | ((with_reducible refine gate_dst (N := 7) rfl ?_); refine bxe 7 #[.int .i64 a3_0, .bool a3_1, .int .i64 a3_2, .int .i64 a3_3, .int .i64 a3_4, .int .i64 a3_5] 39 ?_; intro bO hg hQ hbox hb; have bf := hbox; have bP := nge HB hg; have bQ := nge HB hg; have bx := nlt ba hg; have bz := ngt ba hg; have bo := nlt bb hg; have bp := ngt bb hg; replace ba := nblk ba hb; replace bb := nblk bb hb; replace HB := nbs HB hb; clear hb hbox hg; have hR := bn.out; have hS := bm.out; have hT := bo.out; have hU := bp.out; obtain ⟨hV, hW, hX, hY, hZ, h0⟩ := c6e bb; obtain ⟨h1, h2, h3, h4, h5, h6⟩ := z6_ bb) | ((with_reducible refine gate_callee (f := 29) rfl ?_); refine goesM (some 12) rfl rfl Try.func29 (by kernel_rfl) rfl #[.agg #[.int .i64 a1_0, .bool a1_1, .int .i64 a1_2, .int .i64 a1_3, .int .i64 a1_4, .int .i64 a1_5], .int .i64 a2, .int .i64 2] rfl ?_; (with_reducible refine (spec_Try.calls k a1_0 a1_1 a1_2 a1_3 a1_4 a1_5 a2 2 bh _ A5.out).mono ?_); rintro e h7 ⟨rfl, hb⟩; refine ⟨_, rfl, ?_⟩; replace ba := nblk ba hb; replace bb := nblk bb hb; replace bf := nblk bf hb; replace HB := nbs HB hb; (try clear hb); have h8 := bx.out; have h9 := bz.out; obtain ⟨ia, ib⟩ := c2e ba; obtain ⟨ic, ig⟩ := z2_ ba) | ((with_reducible refine gate_callee (f := 30) rfl ?_); refine goesM (some 23) rfl rfl Try.func30 (by kernel_rfl) rfl #[.int .i64 a2, .int .i64 0, .int .i64 (wrap64 ((l0_0.length : Int) - 1))] rfl ?_; (with_reducible refine (spec_l1In.calls a2 0 (wrap64 ((l0_0.length : Int) - 1)) false _ A7.out).mono ?_); rintro e w' ⟨rfl, ⟨nd, rfl⟩⟩; refine ⟨_, rfl, ?_⟩))
   go_ret
   exact ⟨er_, nbe HB⟩
 ·rw [if_neg c6] at H
  have c6b0 : (bh == 0) = false := beq_eq_false_iff_ne.mpr c6; have c6b1 : (bh != 0) = true := bne_iff_ne.mpr c6; obtain rfl := Option.some.inj H
  go_enter Try.func14, Try.ntmps14
  go_wp2_with (first | ((with_reducible refine gate_dst (N := 4) rfl ?_); refine bxe 4 #[.slice A0_0 l0_0.length c0_0, .slice A0_1 l0_1.length c0_1] 33 ?_; intro bI hg ih hbox hb; have ba := hbox; have bJ := nge HB hg; have bK := nge HB hg; replace HB := nbs HB hb; clear hb hbox hg) | ((with_reducible refine gate_dst (N := 5) rfl ?_); refine bxe 5 #[.int .i64 a1_0, .bool a1_1, .int .i64 a1_2, .int .i64 a1_3, .int .i64 a1_4, .int .i64 a1_5] 39 ?_; intro bL hg ii hbox hb; have bb := hbox; have bM := nge HB hg; have bN := nge HB hg; have bm := nlt ba hg; have bn := ngt ba hg; replace ba := nblk ba hb; replace HB := nbs HB hb; clear hb hbox hg) | ((with_reducible refine gate_dst (N := 7) rfl ?_); refine bxe 7 #[.int .i64 a3_0, .bool a3_1, .int .i64 a3_2, .int .i64 a3_3, .int .i64 a3_4, .int .i64 a3_5] 39 ?_; intro bO hg ij hbox hb; have bf := hbox; have bP := nge HB hg; have bQ := nge HB hg; have bx := nlt ba hg; have bz := ngt ba hg; have bo := nlt bb hg; have bp := ngt bb hg; replace ba := nblk ba hb; replace bb := nblk bb hb; replace HB := nbs HB hb; clear hb hbox hg; have ik := bn.out; have il := bm.out; have im := bo.out; have io := bp.out; obtain ⟨ip, iq, ir, iu, iv, iw⟩ := c6e bb; obtain ⟨ix, iy, iz, iA, iB, iC⟩ := z6_ bb) | ((with_reducible refine gate_callee (f := 29) rfl ?_); refine goesM (some 12) rfl rfl Try.func29 (by kernel_rfl) rfl #[.agg #[.int .i64 a1_0, .bool a1_1, .int .i64 a1_2, .int .i64 a1_3, .int .i64 a1_4, .int .i64 a1_5], .int .i64 a2, .int .i64 2] rfl ?_; (with_reducible refine (spec_Try.calls k a1_0 a1_1 a1_2 a1_3 a1_4 a1_5 a2 2 bh _ A5.out).mono ?_); rintro e iD ⟨rfl, hb⟩; refine ⟨_, rfl, ?_⟩; replace ba := nblk ba hb; replace bb := nblk bb hb; replace bf := nblk bf hb; replace HB := nbs HB hb; (try clear hb)))
  go_ret
  exact ⟨er_, nbe HB⟩

/-! ### spec_MemoryOk: function 15 -/
mutual
def spec_MemoryOk.j0 : Nat → Bool → List (S39) → List Bool → Option (Bool)
 | 0, _, _, _ => none
 | k + 1, em, bk, bR => if em = true then (some false) else (spec_MemoryOk.l0 k 0 bk bR)
def spec_MemoryOk.l0 : Nat → Int → List (S39) → List Bool → Option (Bool)
 | 0, _, _, _ => none
 | k + 1, x3, bk, bR => if x3 < 24 then (if 0 ≤ x3 then (if x3 < (bk.length : Int) then ((spec_WordOk.f k ((rd_T39 bk x3).f0) ((rd_T39 bk x3).f1) ((rd_T39 bk x3).f2.f0) ((rd_T39 bk x3).f2.f1) ((rd_T39 bk x3).f2.f2) ((rd_T39 bk x3).f2.f3)).bind fun bC => (if bC = true then (spec_MemoryOk.l0 k (wrap64 (x3 + 1)) bk bR) else (some false))) else (none)) else (none)) else (some true)
end
def spec_MemoryOk.f (k : Nat) (l0_0 : List (S39)) (l0_1 : List Bool) : Option (Bool) := if (l0_0.length : Int) = 24 then (spec_MemoryOk.j0 k ((l0_1.length : Int) != 24) l0_0 l0_1) else (spec_MemoryOk.j0 k true l0_0 l0_1)
theorem spec_MemoryOk.mono_l : ∀ k, (∀ y0 y1 y2, LeO (spec_MemoryOk.j0 k y0 y1 y2) (spec_MemoryOk.j0 (k + 1) y0 y1 y2)) ∧ (∀ y0 y1 y2, LeO (spec_MemoryOk.l0 k y0 y1 y2) (spec_MemoryOk.l0 (k + 1) y0 y1 y2))
 | 0 => ⟨fun _ _ _ r h => by simp [spec_MemoryOk.j0] at h, fun _ _ _ r h => by simp [spec_MemoryOk.l0] at h⟩
 | k + 1 => by
  obtain ⟨ih0, ih1⟩ := spec_MemoryOk.mono_l k; refine ⟨?_, ?_⟩
  ·intro y0 y1 y2
   unfold spec_MemoryOk.j0
   repeat' first
   | (with_reducible exact ih0 _ _ _)
   | (with_reducible exact ih1 _ _ _)
   | (with_reducible exact spec_WordOk.mono _ _ _ _ _ _ _)
   | (with_reducible exact LeO.refl _)
   | (with_reducible exact LeO.none _)
   | (with_reducible refine LeO.ite ?_ ?_)
   | (with_reducible refine LeO.bind ?_ (fun _ => ?_))
   | exact ih0 _ _ _
   | exact ih1 _ _ _
   | exact spec_WordOk.mono _ _ _ _ _ _ _
   | exact LeO.none _
   | refine LeO.ite ?_ ?_
   | refine LeO.bind ?_ (fun _ => ?_)
  ·intro y0 y1 y2
   unfold spec_MemoryOk.l0
   repeat' first
   | (with_reducible exact ih0 _ _ _)
   | (with_reducible exact ih1 _ _ _)
   | (with_reducible exact spec_WordOk.mono _ _ _ _ _ _ _)
   | (with_reducible exact LeO.refl _)
   | (with_reducible exact LeO.none _)
   | (with_reducible refine LeO.ite ?_ ?_)
   | (with_reducible refine LeO.bind ?_ (fun _ => ?_))
   | exact ih0 _ _ _
   | exact ih1 _ _ _
   | exact spec_WordOk.mono _ _ _ _ _ _ _
   | exact LeO.none _
   | refine LeO.ite ?_ ?_
   | refine LeO.bind ?_ (fun _ => ?_)
theorem spec_MemoryOk.mono : ∀ a0 a1 k, LeO (spec_MemoryOk.f k a0 a1) (spec_MemoryOk.f (k + 1) a0 a1) := by
 intro a0 a1 k; obtain ⟨ih0, ih1⟩ := spec_MemoryOk.mono_l k
 unfold spec_MemoryOk.f
 repeat' first
   | (with_reducible exact ih0 _ _ _)
   | (with_reducible exact ih1 _ _ _)
   | (with_reducible exact spec_WordOk.mono _ _ _ _ _ _ _)
   | (with_reducible exact LeO.refl _)
   | (with_reducible exact LeO.none _)
   | (with_reducible refine LeO.ite ?_ ?_)
   | (with_reducible refine LeO.bind ?_ (fun _ => ?_))
   | exact ih0 _ _ _
   | exact ih1 _ _ _
   | exact spec_WordOk.mono _ _ _ _ _ _ _
   | exact LeO.none _
   | refine LeO.ite ?_ ?_
   | refine LeO.bind ?_ (fun _ => ?_)
set_option maxHeartbeats 8000000 in
set_option maxRecDepth 100000 in
theorem spec_MemoryOk.calls (k : Nat) (A0_0 : Option Addr) (c0_0 : Nat) (l0_0 : List (S39)) (A0_1 : Option Addr) (c0_1 : Nat) (l0_1 : List Bool) (r : Bool) (w : World) (hr0_0 : Kd.C k39 w A0_0 l0_0.length l0_0) (hc0_0 : l0_0.length ≤ c0_0) (hr0_1 : Kd.C Kd.bool w A0_1 l0_1.length l0_1) (hc0_1 : l0_1.length ≤ c0_1) (h : spec_MemoryOk.f k l0_0 l0_1 = some r) :
  Calls Try.prog 15 #[.agg #[.slice A0_0 l0_0.length c0_0, .slice A0_1 l0_1.length c0_1]] w fun e w' => e = .returned (.bool r) ∧ Below w.heap.size w w' := by
 have hu33 := Try.underlying33; have hu39 := Try.underlying39; have bH := Aside0.mk hr0_0; have ej := Aside0.mk hc0_0; clear hr0_0 hc0_0; have ek := Aside0.mk hr0_1; have el := Aside0.mk hc0_1; clear hr0_1 hc0_1; have HB := Aside0.mk (Below.refl w.heap.size w); have H : (if (l0_0.length : Int) = 24 then (spec_MemoryOk.j0 k ((l0_1.length : Int) != 24) l0_0 l0_1) else (spec_MemoryOk.j0 k true l0_0 l0_1)) = some r := h; clear h; have bS := Aside0.mk H; clear H
 go_enter Try.func15, Try.ntmps15
 go_upto_region 1 with (first | ((with_reducible refine gate_dst (N := 1) rfl ?_); (try (refine gate_guard (by rfl) ?_; dsimp only)); refine bxe 1 #[.slice A0_0 l0_0.length c0_0, .slice A0_1 l0_1.length c0_1] 33 ?_; intro b5 hg w3 hbox hb; have bg := hbox; have iE := nge HB hg; have iF := nge HB hg; replace HB := nbs HB hb; clear hb hbox hg))
 (try simp only [Act.put, List.setIfInBounds_toArray, List.set_cons_zero, List.set_cons_succ])
 go_cut [13] (fun en wc => ∃ (kq : Nat) (bD : Bool), en = .bool bD ∧ Aside0 (spec_MemoryOk.j0 kq bD l0_0 l0_1 = some r) ∧ Aside0 (kq ≤ k) ∧ Aside0 (wc.heap[b5]? = some (.cells #[(.slice A0_0 l0_0.length c0_0), (.slice A0_1 l0_1.length c0_1)] 33 (0, 0))) ∧ Aside0 (Below w.heap.size w wc))
 case first =>
  have H := bS.out; clear bS
  by_cases c4 : (l0_0.length : Int) = 24
  ·rw [if_pos c4] at H
   have c4b0 : ((l0_0.length : Int) == 24) = true := beq_iff_eq.mpr c4; have c4b1 : ((l0_0.length : Int) != 24) = false := bne_eq_false_iff_eq.mpr c4; clear c4; (first | rw [c4b0] | (simp only [i64_w, i32_w]; rw [c4b0]) | skip); have H' := Aside0.mk H; clear H; obtain ⟨b6, b7⟩ := c2e bg; obtain ⟨b8, b9⟩ := z2_ bg; go_wp2
   go_meet
   case rel => exact ⟨_, (((l0_1.length : Int) != 24)), (by first | rfl | (simp; done) | (simp [*]; done)), H', ⟨by first | omega | exact Nat.le_refl _⟩, ⟨nb bg⟩, ⟨nbe HB⟩⟩
  ·rw [if_neg c4] at H
   have c4b0 : ((l0_0.length : Int) == 24) = false := beq_eq_false_iff_ne.mpr c4; have c4b1 : ((l0_0.length : Int) != 24) = true := bne_iff_ne.mpr c4; (first | rw [c4b0] | (simp only [i64_w, i32_w]; rw [c4b0]) | skip); have H' := Aside0.mk H; clear H; obtain ⟨da, db⟩ := c2e bg; obtain ⟨dc, dd⟩ := z2_ bg; go_wp2
   go_meet
   case rel => exact ⟨_, (true), (by first | rfl | (simp; done) | (simp [*]; done)), H', ⟨by first | omega | exact Nat.le_refl _⟩, ⟨nb bg⟩, ⟨nbe HB⟩⟩
 case rest =>
  clear bS; try clear c1
  try clear p2
  try clear c4
  try clear c4b0
  try clear c4b1
  try clear b6
  try clear b7
  try clear da
  try clear db
  try clear b8
  try clear b9
  try clear dc
  try clear dd
  obtain ⟨kq, bD, rfl, HA, de, bg, HB⟩ := hcut
  cases kq with
  | zero => exact absurd HA.out (by simp [spec_MemoryOk.j0])
  | succ kj1 =>
   have H := HA.out; clear HA; simp only [spec_MemoryOk.j0] at H
   by_cases c7 : bD = true
   ·subst c7
    have H1 : (some false) = some r := by rw [if_pos rfl] at H; exact H
    clear H; have H := H1; clear H1; obtain rfl := Option.some.inj H; go_wp2
    go_ret
    exact ⟨er_, nbe HB⟩
   ·replace c7 := Bool.eq_false_iff.mpr c7
    subst c7; have H1 : (spec_MemoryOk.l0 kj1 0 l0_0 l0_1) = some r := by rw [if_neg (show ¬ (false = true) by decide)] at H; exact H
    clear H; have H := H1; clear H1; have H' := Aside0.mk H; clear H; go_wp2
    go_loopg [3] kj1 (fun kq v3 w' => ∃ (bc : Int), v3 = .int .i64 bc ∧ Aside0 (spec_MemoryOk.l0 kq bc l0_0 l0_1 = some r) ∧ Aside0 (kq ≤ kj1) ∧ Aside0 (w'.heap[b5]? = some (.cells #[(.slice A0_0 l0_0.length c0_0), (.slice A0_1 l0_1.length c0_1)] 33 (0, 0))) ∧ Aside0 (Below w.heap.size w w'))
    case atStart => exact ⟨(0), (by first | rfl | (simp; done) | (simp [*]; done)), H', ⟨Nat.le_refl _⟩, ⟨nb bg⟩, ⟨nbe HB⟩⟩
    case round =>
     clear H'; try clear c1
     try clear p2
     try clear c4
     try clear c4b0
     try clear c4b1
     try clear c7
     try clear b6
     try clear b7
     try clear da
     try clear db
     try clear b8
     try clear b9
     try clear dc
     try clear dd
     try clear p2
     obtain ⟨bc, rfl, HA, df, bg, HB⟩ := hrel
     cases gk with
     | zero => exact absurd HA.out (by simp [spec_MemoryOk.l0])
     | succ k2 =>
      have H := HA.out; clear HA; simp only [spec_MemoryOk.l0] at H
      by_cases c8 : bc < 24
      ·rw [if_pos c8] at H
       have c8b0 : decide (bc < 24) = true := decide_eq_true c8; clear c8
       by_cases c9 : 0 ≤ bc
       ·rw [if_pos c9] at H
        have c9b0 : decide (0 ≤ bc) = true := decide_eq_true c9; clear c9
        by_cases c10 : bc < (l0_0.length : Int)
        ·rw [if_pos c10] at H
         have c10b0 : decide (bc < (l0_0.length : Int)) = true := decide_eq_true c10; clear c10; replace H := Option.bind_eq_some_iff.mp H; obtain ⟨bC, A110, H⟩ := H; replace H : (if bC = true then (spec_MemoryOk.l0 k2 (wrap64 (bc + 1)) l0_0 l0_1) else (some false)) = some r := H; have A11 := Aside0.mk A110; clear A110
         by_cases c12 : bC = true
         ·subst c12
          have H1 : (spec_MemoryOk.l0 k2 (wrap64 (bc + 1)) l0_0 l0_1) = some r := by rw [if_pos rfl] at H; exact H
          clear H; have H := H1; clear H1; have H' := Aside0.mk H; clear H; obtain ⟨iG, iH⟩ := c2e bg; obtain ⟨iI, iJ⟩ := z2_ bg; have p143 : 0 ≤ (bc : Int) := of_decide_eq_true (by first | (with_reducible assumption) | assumption); have q143 : bc < (l0_0.length : Int) := of_decide_eq_true (by first | (with_reducible assumption) | assumption); obtain ⟨eo, e143, bq, br, bs, bt, bu, bv⟩ := at_T39 bH.out bc p143 q143
          cases e143
          replace bq := (HB.out.cell (World.block_lt_of_cell? w _ bq)).trans bq; replace br := (HB.out.cell (World.block_lt_of_cell? w _ br)).trans br; replace bs := (HB.out.cell (World.block_lt_of_cell? w _ bs)).trans bs; replace bt := (HB.out.cell (World.block_lt_of_cell? w _ bt)).trans bt; replace bu := (HB.out.cell (World.block_lt_of_cell? w _ bu)).trans bu; replace bv := (HB.out.cell (World.block_lt_of_cell? w _ bv)).trans bv; replace p143 := eq_true p143; replace q143 := eq_true q143
          go_wp2_with (first | ((with_reducible refine gate_callee (f := 32) rfl ?_); refine goesM (some 23) rfl rfl Try.func32 (by kernel_rfl) rfl #[.agg #[.int .i64 ((rd_T39 l0_0 bc).f0), .bool ((rd_T39 l0_0 bc).f1), .int .i64 ((rd_T39 l0_0 bc).f2.f0), .int .i64 ((rd_T39 l0_0 bc).f2.f1), .int .i64 ((rd_T39 l0_0 bc).f2.f2), .int .i64 ((rd_T39 l0_0 bc).f2.f3)]] rfl ?_; (with_reducible refine (spec_WordOk.calls k2 ((rd_T39 l0_0 bc).f0) ((rd_T39 l0_0 bc).f1) ((rd_T39 l0_0 bc).f2.f0) ((rd_T39 l0_0 bc).f2.f1) ((rd_T39 l0_0 bc).f2.f2) ((rd_T39 l0_0 bc).f2.f3) true _ A11.out).mono ?_); rintro e iK ⟨rfl, hb⟩; refine ⟨_, rfl, ?_⟩; replace bg := nblk bg hb; replace HB := nbs HB hb; (try clear hb)))
          go_roundg k2
          case measure => have := de.out; have := df.out; omega
          case rel => exact ⟨(wrap64 (bc + 1)), (by first | rfl | (simp; done) | (simp [*]; done)), H', ⟨by have := de.out; have := df.out; omega⟩, ⟨nb bg⟩, ⟨nbe HB⟩⟩
         ·replace c12 := Bool.eq_false_iff.mpr c12
          subst c12; have H1 : (some false) = some r := by rw [if_neg (show ¬ (false = true) by decide)] at H; exact H
          clear H; have H := H1; clear H1; obtain rfl := Option.some.inj H; obtain ⟨iL, iM⟩ := c2e bg; obtain ⟨iN, iO⟩ := z2_ bg; have p143 : 0 ≤ (bc : Int) := of_decide_eq_true (by first | (with_reducible assumption) | assumption); have q143 : bc < (l0_0.length : Int) := of_decide_eq_true (by first | (with_reducible assumption) | assumption); obtain ⟨eo, e143, bq, br, bs, bt, bu, bv⟩ := at_T39 bH.out bc p143 q143
          cases e143
          replace bq := (HB.out.cell (World.block_lt_of_cell? w _ bq)).trans bq; replace br := (HB.out.cell (World.block_lt_of_cell? w _ br)).trans br; replace bs := (HB.out.cell (World.block_lt_of_cell? w _ bs)).trans bs; replace bt := (HB.out.cell (World.block_lt_of_cell? w _ bt)).trans bt; replace bu := (HB.out.cell (World.block_lt_of_cell? w _ bu)).trans bu; replace bv := (HB.out.cell (World.block_lt_of_cell? w _ bv)).trans bv; replace p143 := eq_true p143; replace q143 := eq_true q143
          go_wp2_with (first | ((with_reducible refine gate_callee (f := 32) rfl ?_); refine goesM (some 23) rfl rfl Try.func32 (by kernel_rfl) rfl #[.agg #[.int .i64 ((rd_T39 l0_0 bc).f0), .bool ((rd_T39 l0_0 bc).f1), .int .i64 ((rd_T39 l0_0 bc).f2.f0), .int .i64 ((rd_T39 l0_0 bc).f2.f1), .int .i64 ((rd_T39 l0_0 bc).f2.f2), .int .i64 ((rd_T39 l0_0 bc).f2.f3)]] rfl ?_; (with_reducible refine (spec_WordOk.calls k2 ((rd_T39 l0_0 bc).f0) ((rd_T39 l0_0 bc).f1) ((rd_T39 l0_0 bc).f2.f0) ((rd_T39 l0_0 bc).f2.f1) ((rd_T39 l0_0 bc).f2.f2) ((rd_T39 l0_0 bc).f2.f3) false _ A11.out).mono ?_); rintro e iP ⟨rfl, hb⟩; refine ⟨_, rfl, ?_⟩; replace bg := nblk bg hb; replace HB := nbs HB hb; (try clear hb)))
          go_ret
          exact ⟨er_, nbe HB⟩
        ·rw [if_neg c10] at H
         exact absurd H (by simp)
       ·rw [if_neg c9] at H
        exact absurd H (by simp)
      ·rw [if_neg c8] at H
       have c8b0 : decide (bc < 24) = false := decide_eq_false c8; clear c8; obtain rfl := Option.some.inj H; go_wp2
       go_ret
       exact ⟨er_, nbe HB⟩

end Go.Proofs.Ytbpalnplcgmjjaa.PFnExactWrite
