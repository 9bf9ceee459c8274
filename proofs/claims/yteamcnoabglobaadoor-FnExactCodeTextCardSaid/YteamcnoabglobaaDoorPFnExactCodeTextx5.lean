-- Written by a program of this session (wip/patch.py turns a copy of the kit's print): the functions that the law reaches, and their walks.
import Derived.Test.YteamcnoabglobaaDoorPFnExactCodeTextx0
import Derived.Test.YteamcnoabglobaaDoorPFnExactCodeTextx1
import Derived.Test.YteamcnoabglobaaDoorPFnExactCodeTextx2
import Derived.Test.YteamcnoabglobaaDoorPFnExactCodeTextx3
import Derived.Test.YteamcnoabglobaaDoorPFnExactCodeTextx4
import Derived.Test.YteamcnoabglobaaDoorCFnExactCodeText
namespace Go.Proofs.YteamcnoabglobaaDoor.PFnExactCodeText
open Go.RowKit Go.Proofs.YteamcnoabglobaaDoorW.PrintWords Go.Proofs.YteamcnoabglobaaDoorW.PrintLast Go.Proofs.YteamcnoabglobaaDoorW.PrintMore Go.Proofs.YteamcnoabglobaaDoorW.Mine
attribute [local go_sem] max2_int min2_int max_two min_two max_three min_three max_four min_four   -- for this text's walks alone
set_option linter.unusedVariables false
set_option linter.unusedSimpArgs false

/-! ### laws_eqIns: function 24 -/
def laws_eqIns.f (a0_0 : Int) (a0_1 : Int) (a0_2 : Int) (a0_3 : Int) (a0_4 : Int) (a1_0 : Int) (a1_1 : Int) (a1_2 : Int) (a1_3 : Int) (a1_4 : Int) : Option (Bool) := if a0_0 = a1_0 then (if a0_1 = a1_1 then (if a0_2 = a1_2 then (if a0_3 = a1_3 then (if a0_4 = a1_4 then (some true) else (some false)) else (some false)) else (some false)) else (some false)) else (some false)
set_option maxHeartbeats 8000000 in
set_option maxRecDepth 100000 in
theorem laws_eqIns.calls (a0_0 : Int) (a0_1 : Int) (a0_2 : Int) (a0_3 : Int) (a0_4 : Int) (a1_0 : Int) (a1_1 : Int) (a1_2 : Int) (a1_3 : Int) (a1_4 : Int) (r : Bool) (w : World) (h : laws_eqIns.f a0_0 a0_1 a0_2 a0_3 a0_4 a1_0 a1_1 a1_2 a1_3 a1_4 = some r) :
  Calls Tryd.prog 24 #[.agg #[.int .i64 a0_0, .int .i64 a0_1, .int .i64 a0_2, .int .i64 a0_3, .int .i64 a0_4], .agg #[.int .i64 a1_0, .int .i64 a1_1, .int .i64 a1_2, .int .i64 a1_3, .int .i64 a1_4]] w fun e w' => e = .returned (.bool r) ∧ Below w.heap.size w w' := by
 have hu25 := Tryd.underlying25; have HB := Aside0.mk (Below.refl w.heap.size w); have H : (if a0_0 = a1_0 then (if a0_1 = a1_1 then (if a0_2 = a1_2 then (if a0_3 = a1_3 then (if a0_4 = a1_4 then (some true) else (some false)) else (some false)) else (some false)) else (some false)) else (some false)) = some r := h; clear h
 by_cases c3 : a0_0 = a1_0
 ·rw [if_pos c3] at H
  have c3b0 : (a0_0 == a1_0) = true := beq_iff_eq.mpr c3; have c3b1 : (a0_0 != a1_0) = false := bne_eq_false_iff_eq.mpr c3; clear c3
  by_cases c4 : a0_1 = a1_1
  ·rw [if_pos c4] at H
   have c4b0 : (a0_1 == a1_1) = true := beq_iff_eq.mpr c4; have c4b1 : (a0_1 != a1_1) = false := bne_eq_false_iff_eq.mpr c4; clear c4
   by_cases c5 : a0_2 = a1_2
   ·rw [if_pos c5] at H
    have c5b0 : (a0_2 == a1_2) = true := beq_iff_eq.mpr c5; have c5b1 : (a0_2 != a1_2) = false := bne_eq_false_iff_eq.mpr c5; clear c5
    by_cases c6 : a0_3 = a1_3
    ·rw [if_pos c6] at H
     have c6b0 : (a0_3 == a1_3) = true := beq_iff_eq.mpr c6; have c6b1 : (a0_3 != a1_3) = false := bne_eq_false_iff_eq.mpr c6; clear c6
     by_cases c7 : a0_4 = a1_4
     ·rw [if_pos c7] at H
      have c7b0 : (a0_4 == a1_4) = true := beq_iff_eq.mpr c7; have c7b1 : (a0_4 != a1_4) = false := bne_eq_false_iff_eq.mpr c7; clear c7; obtain rfl := Option.some.inj H
      go_enter Tryd.func24, Tryd.ntmps24
      go_wp2_with (first | ((with_reducible refine gate_dst (N := 2) rfl ?_); refine bxe 2 #[.int .i64 a0_0, .int .i64 a0_1, .int .i64 a0_2, .int .i64 a0_3, .int .i64 a0_4] 25 ?_; intro bQ hg w8 hbox hb; have bc := hbox; have bR := nge HB hg; have bS := nge HB hg; replace HB := nbs HB hb; clear hb hbox hg) | ((with_reducible refine gate_dst (N := 3) rfl ?_); refine bxe 3 #[.int .i64 a1_0, .int .i64 a1_1, .int .i64 a1_2, .int .i64 a1_3, .int .i64 a1_4] 25 ?_; intro bT hg w9 hbox hb; have bn := hbox; have bU := nge HB hg; have bV := nge HB hg; have bs := nlt bc hg; have bt := ngt bc hg; replace bc := nblk bc hb; replace HB := nbs HB hb; clear hb hbox hg; have dz := bs.out; have dA := bt.out; obtain ⟨dB, dC, dD, dE, dF⟩ := c5e bc; obtain ⟨dG, dH, dI, dJ, dK⟩ := z5_ bc; obtain ⟨dL, dM, dN, dO, dP⟩ := c5e bn; obtain ⟨dQ, dR, dS, dT, dU⟩ := z5_ bn))
      go_ret
      exact ⟨er_, nbe HB⟩
     ·rw [if_neg c7] at H
      have c7b0 : (a0_4 == a1_4) = false := beq_eq_false_iff_ne.mpr c7; have c7b1 : (a0_4 != a1_4) = true := bne_iff_ne.mpr c7; obtain rfl := Option.some.inj H
      go_enter Tryd.func24, Tryd.ntmps24
      go_wp2_with (first | ((with_reducible refine gate_dst (N := 2) rfl ?_); refine bxe 2 #[.int .i64 a0_0, .int .i64 a0_1, .int .i64 a0_2, .int .i64 a0_3, .int .i64 a0_4] 25 ?_; intro bQ hg dV hbox hb; have bc := hbox; have bR := nge HB hg; have bS := nge HB hg; replace HB := nbs HB hb; clear hb hbox hg) | ((with_reducible refine gate_dst (N := 3) rfl ?_); refine bxe 3 #[.int .i64 a1_0, .int .i64 a1_1, .int .i64 a1_2, .int .i64 a1_3, .int .i64 a1_4] 25 ?_; intro bT hg b5 hbox hb; have bn := hbox; have bU := nge HB hg; have bV := nge HB hg; have bs := nlt bc hg; have bt := ngt bc hg; replace bc := nblk bc hb; replace HB := nbs HB hb; clear hb hbox hg; have dW := bs.out; have dX := bt.out; obtain ⟨dY, dZ, d0, d1, d2⟩ := c5e bc; obtain ⟨d3, d4, d5, d6, d7⟩ := z5_ bc; obtain ⟨d8, d9, ea, eb, ec⟩ := c5e bn; obtain ⟨ed, ee, ef, eg, eh⟩ := z5_ bn))
      go_ret
      exact ⟨er_, nbe HB⟩
    ·rw [if_neg c6] at H
     have c6b0 : (a0_3 == a1_3) = false := beq_eq_false_iff_ne.mpr c6; have c6b1 : (a0_3 != a1_3) = true := bne_iff_ne.mpr c6; obtain rfl := Option.some.inj H
     go_enter Tryd.func24, Tryd.ntmps24
     go_wp2_with (first | ((with_reducible refine gate_dst (N := 2) rfl ?_); refine bxe 2 #[.int .i64 a0_0, .int .i64 a0_1, .int .i64 a0_2, .int .i64 a0_3, .int .i64 a0_4] 25 ?_; intro bQ hg b6 hbox hb; have bc := hbox; have bR := nge HB hg; have bS := nge HB hg; replace HB := nbs HB hb; clear hb hbox hg) | ((with_reducible refine gate_dst (N := 3) rfl ?_); refine bxe 3 #[.int .i64 a1_0, .int .i64 a1_1, .int .i64 a1_2, .int .i64 a1_3, .int .i64 a1_4] 25 ?_; intro bT hg ei hbox hb; have bn := hbox; have bU := nge HB hg; have bV := nge HB hg; have bs := nlt bc hg; have bt := ngt bc hg; replace bc := nblk bc hb; replace HB := nbs HB hb; clear hb hbox hg; have ej := bs.out; have ek := bt.out; obtain ⟨el, em, en, eo, ep⟩ := c5e bc; obtain ⟨er, es, et, eu, ev⟩ := z5_ bc; obtain ⟨ew, ex, ey, ez, eA⟩ := c5e bn; obtain ⟨eB, eC, eD, eE, eF⟩ := z5_ bn))
     go_ret
     exact ⟨er_, nbe HB⟩
   ·rw [if_neg c5] at H
    have c5b0 : (a0_2 == a1_2) = false := beq_eq_false_iff_ne.mpr c5; have c5b1 : (a0_2 != a1_2) = true := bne_iff_ne.mpr c5; obtain rfl := Option.some.inj H
    go_enter Tryd.func24, Tryd.ntmps24
    go_wp2_with (first | ((with_reducible refine gate_dst (N := 2) rfl ?_); refine bxe 2 #[.int .i64 a0_0, .int .i64 a0_1, .int .i64 a0_2, .int .i64 a0_3, .int .i64 a0_4] 25 ?_; intro bQ hg b7 hbox hb; have bc := hbox; have bR := nge HB hg; have bS := nge HB hg; replace HB := nbs HB hb; clear hb hbox hg) | ((with_reducible refine gate_dst (N := 3) rfl ?_); refine bxe 3 #[.int .i64 a1_0, .int .i64 a1_1, .int .i64 a1_2, .int .i64 a1_3, .int .i64 a1_4] 25 ?_; intro bT hg b8 hbox hb; have bn := hbox; have bU := nge HB hg; have bV := nge HB hg; have bs := nlt bc hg; have bt := ngt bc hg; replace bc := nblk bc hb; replace HB := nbs HB hb; clear hb hbox hg; have eG := bs.out; have eH := bt.out; obtain ⟨eI, eJ, eK, eL, eM⟩ := c5e bc; obtain ⟨eN, eO, eP, eQ, eR⟩ := z5_ bc; obtain ⟨eS, eT, eU, eV, eW⟩ := c5e bn; obtain ⟨eX, eY, eZ, e0, e1⟩ := z5_ bn))
    go_ret
    exact ⟨er_, nbe HB⟩
  ·rw [if_neg c4] at H
   have c4b0 : (a0_1 == a1_1) = false := beq_eq_false_iff_ne.mpr c4; have c4b1 : (a0_1 != a1_1) = true := bne_iff_ne.mpr c4; obtain rfl := Option.some.inj H
   go_enter Tryd.func24, Tryd.ntmps24
   go_wp2_with (first | ((with_reducible refine gate_dst (N := 2) rfl ?_); refine bxe 2 #[.int .i64 a0_0, .int .i64 a0_1, .int .i64 a0_2, .int .i64 a0_3, .int .i64 a0_4] 25 ?_; intro bQ hg e2 hbox hb; have bc := hbox; have bR := nge HB hg; have bS := nge HB hg; replace HB := nbs HB hb; clear hb hbox hg) | ((with_reducible refine gate_dst (N := 3) rfl ?_); refine bxe 3 #[.int .i64 a1_0, .int .i64 a1_1, .int .i64 a1_2, .int .i64 a1_3, .int .i64 a1_4] 25 ?_; intro bT hg b9 hbox hb; have bn := hbox; have bU := nge HB hg; have bV := nge HB hg; have bs := nlt bc hg; have bt := ngt bc hg; replace bc := nblk bc hb; replace HB := nbs HB hb; clear hb hbox hg; have e3 := bs.out; have e4 := bt.out; obtain ⟨e5, e6, e7, e8, e9⟩ := c5e bc; obtain ⟨ga, gb, gc, gd, gf⟩ := z5_ bc; obtain ⟨gg, gh, gi, gj, gl⟩ := c5e bn; obtain ⟨gm, gn, gp, gq, gr⟩ := z5_ bn))
   go_ret
   exact ⟨er_, nbe HB⟩
 ·rw [if_neg c3] at H
  have c3b0 : (a0_0 == a1_0) = false := beq_eq_false_iff_ne.mpr c3; have c3b1 : (a0_0 != a1_0) = true := bne_iff_ne.mpr c3; obtain rfl := Option.some.inj H
  go_enter Tryd.func24, Tryd.ntmps24
  go_wp2_with (first | ((with_reducible refine gate_dst (N := 2) rfl ?_); refine bxe 2 #[.int .i64 a0_0, .int .i64 a0_1, .int .i64 a0_2, .int .i64 a0_3, .int .i64 a0_4] 25 ?_; intro bQ hg da hbox hb; have bc := hbox; have bR := nge HB hg; have bS := nge HB hg; replace HB := nbs HB hb; clear hb hbox hg) | ((with_reducible refine gate_dst (N := 3) rfl ?_); refine bxe 3 #[.int .i64 a1_0, .int .i64 a1_1, .int .i64 a1_2, .int .i64 a1_3, .int .i64 a1_4] 25 ?_; intro bT hg gs hbox hb; have bn := hbox; have bU := nge HB hg; have bV := nge HB hg; have bs := nlt bc hg; have bt := ngt bc hg; replace bc := nblk bc hb; replace HB := nbs HB hb; clear hb hbox hg; have gt := bs.out; have gu := bt.out; obtain ⟨gv, gw, gx, gy, gz⟩ := c5e bc; obtain ⟨gA, gB, gC, gD, gE⟩ := z5_ bc; obtain ⟨gF, gG, gH, gI, gJ⟩ := c5e bn; obtain ⟨gK, gL, gM, gN, gO⟩ := z5_ bn))
  go_ret
  exact ⟨er_, nbe HB⟩

/-! ### laws_eqInsS: function 12 -/
def laws_eqInsS.l0 : Nat → List (S25) → List (S25) → Int → Option (Bool)
 | 0, _, _, _ => none
 | k + 1, x0, x1, x5 => if x5 < (x0.length : Int) then (if 0 ≤ x5 then (if x5 < (x1.length : Int) then ((laws_eqIns.f ((rd_T25 x0 x5).f0) ((rd_T25 x0 x5).f1) ((rd_T25 x0 x5).f2) ((rd_T25 x0 x5).f3) ((rd_T25 x0 x5).f4) ((rd_T25 x1 x5).f0) ((rd_T25 x1 x5).f1) ((rd_T25 x1 x5).f2) ((rd_T25 x1 x5).f3) ((rd_T25 x1 x5).f4)).bind fun bW => (if bW = true then (laws_eqInsS.l0 k x0 x1 (wrap64 (x5 + 1))) else (some false))) else (none)) else (none)) else (some true)
def laws_eqInsS.f (k : Nat) (l0 : List (S25)) (l1 : List (S25)) : Option (Bool) := if (l0.length : Int) = (l1.length : Int) then (laws_eqInsS.l0 k l0 l1 0) else (some false)
theorem laws_eqInsS.mono_l : ∀ k, (∀ y0 y1 y2, LeO (laws_eqInsS.l0 k y0 y1 y2) (laws_eqInsS.l0 (k + 1) y0 y1 y2))
 | 0 => fun _ _ _ r h => by simp [laws_eqInsS.l0] at h
 | k + 1 => by
  have ih0 := laws_eqInsS.mono_l k
  ·intro y0 y1 y2
   unfold laws_eqInsS.l0
   repeat' first
   | (with_reducible exact ih0 _ _ _)
   | (with_reducible exact LeO.refl _)
   | (with_reducible exact LeO.none _)
   | (with_reducible refine LeO.ite ?_ ?_)
   | (with_reducible refine LeO.bind ?_ (fun _ => ?_))
   | exact ih0 _ _ _
   | exact LeO.none _
   | refine LeO.ite ?_ ?_
   | refine LeO.bind ?_ (fun _ => ?_)
theorem laws_eqInsS.mono : ∀ a0 a1 k, LeO (laws_eqInsS.f k a0 a1) (laws_eqInsS.f (k + 1) a0 a1) := by
 intro a0 a1 k; have ih0 := laws_eqInsS.mono_l k
 unfold laws_eqInsS.f
 repeat' first
   | (with_reducible exact ih0 _ _ _)
   | (with_reducible exact LeO.refl _)
   | (with_reducible exact LeO.none _)
   | (with_reducible refine LeO.ite ?_ ?_)
   | (with_reducible refine LeO.bind ?_ (fun _ => ?_))
   | exact ih0 _ _ _
   | exact LeO.none _
   | refine LeO.ite ?_ ?_
   | refine LeO.bind ?_ (fun _ => ?_)
def laws_eqInsS.T6 : Bool × List (List Nat × List Nat) := (true, [([], []), ([], []), ([0, 1], [0, 1]), ([2], [2]), ([], []), ([], []), ([4, 5], [4, 5]), ([6], [6]), ([3, 7], [3, 7]), ([8], [8])])
def laws_eqInsS.B6 : List Nat := [0, 0, 3, 7, 0, 0, 48, 112, 255, 511]
theorem laws_eqInsS.tab6 : rtab .any (opsOf Tryd.f12 6) = laws_eqInsS.T6 := by kernel_rfl
theorem laws_eqInsS.bits6 : waitsOk laws_eqInsS.T6.2 laws_eqInsS.B6 = true := by kernel_rfl
set_option maxHeartbeats 8000000 in
set_option maxRecDepth 100000 in
theorem laws_eqInsS.calls (k : Nat) (A0 : Option Addr) (c0 : Nat) (l0 : List (S25)) (A1 : Option Addr) (c1 : Nat) (l1 : List (S25)) (r : Bool) (w : World) (hr0 : Kd.C k25 w A0 l0.length l0) (hc0 : l0.length ≤ c0) (hr1 : Kd.C k25 w A1 l1.length l1) (hc1 : l1.length ≤ c1) (h : laws_eqInsS.f k l0 l1 = some r) :
  Calls Tryd.prog 12 #[.slice A0 l0.length c0, .slice A1 l1.length c1] w fun e w' => e = .returned (.bool r) ∧ Below w.heap.size w w' := by
 have hu25 := Tryd.underlying25; have bp := Aside0.mk hr0; have bq := Aside0.mk hc0; clear hr0 hc0; have bX := Aside0.mk hr1; have gP := Aside0.mk hc1; clear hr1 hc1; have HB := Aside0.mk (Below.refl w.heap.size w); have H : (if (l0.length : Int) = (l1.length : Int) then (laws_eqInsS.l0 k l0 l1 0) else (some false)) = some r := h; clear h
 by_cases c3 : (l0.length : Int) = (l1.length : Int)
 ·rw [if_pos c3] at H
  have c3b0 : ((l0.length : Int) == (l1.length : Int)) = true := beq_iff_eq.mpr c3; have c3b1 : ((l0.length : Int) != (l1.length : Int)) = false := bne_eq_false_iff_eq.mpr c3; have c3b2 : (l0.length == l1.length) = true := by first | simpa using c3 | (simp at c3 ⊢; omega)
  clear c3; have H' := Aside0.mk H; clear H
  go_enter Tryd.func12, Tryd.ntmps12
  go_wp2
  go_loopg [5] k (fun kq v5 w' => ∃ (ba : Int), v5 = .int .i64 ba ∧ Aside0 (laws_eqInsS.l0 kq l0 l1 ba = some r) ∧ Aside0 (kq ≤ k) ∧ Aside0 (Below w.heap.size w w'))
  case atStart => exact ⟨(0), (by first | rfl | (simp; done) | (simp [*]; done)), H', ⟨Nat.le_refl _⟩, ⟨nbe HB⟩⟩
  case round =>
   clear H'; try clear c1
   try clear p2
   try clear c3
   try clear c3b0
   try clear c3b1
   try clear c3b2
   obtain ⟨ba, rfl, HA, bY, HB⟩ := hrel
   cases gk with
   | zero => exact absurd HA.out (by simp [laws_eqInsS.l0])
   | succ k1 =>
    have H := HA.out; clear HA; simp only [laws_eqInsS.l0] at H
    by_cases c4 : ba < (l0.length : Int)
    ·rw [if_pos c4] at H
     have c4b0 : decide (ba < (l0.length : Int)) = true := decide_eq_true c4; clear c4
     by_cases c5 : 0 ≤ ba
     ·rw [if_pos c5] at H
      have c5b0 : decide (0 ≤ ba) = true := decide_eq_true c5; clear c5
      by_cases c6 : ba < (l1.length : Int)
      ·rw [if_pos c6] at H
       have c6b0 : decide (ba < (l1.length : Int)) = true := decide_eq_true c6; clear c6; replace H := Option.bind_eq_some_iff.mp H; obtain ⟨bW, A70, H⟩ := H; replace H : (if bW = true then (laws_eqInsS.l0 k1 l0 l1 (wrap64 (ba + 1))) else (some false)) = some r := H; have A7 := Aside0.mk A70; clear A70
       by_cases c8 : bW = true
       ·subst c8
        have H1 : (laws_eqInsS.l0 k1 l0 l1 (wrap64 (ba + 1))) = some r := by rw [if_pos rfl] at H; exact H
        clear H; have H := H1; clear H1; have H' := Aside0.mk H; clear H
        try go_wp2
        replace HB := Aside0.mk (below_drew1 HB.out); have p170 : 0 ≤ (ba : Int) := of_decide_eq_true (by first | (with_reducible assumption) | assumption); have q170 : ba < (l0.length : Int) := of_decide_eq_true (by first | (with_reducible assumption) | assumption); obtain ⟨bj, e170, bu, bv, bw, bx, bz⟩ := at_T25 bp.out ba p170 q170; have bG := bz; have bH := bx; have bI := bw; have bJ := bv; have bK := bu
        cases e170
        replace bu := (HB.out.cell (World.block_lt_of_cell? w _ bu)).trans bu; replace bv := (HB.out.cell (World.block_lt_of_cell? w _ bv)).trans bv; replace bw := (HB.out.cell (World.block_lt_of_cell? w _ bw)).trans bw; replace bx := (HB.out.cell (World.block_lt_of_cell? w _ bx)).trans bx; replace bz := (HB.out.cell (World.block_lt_of_cell? w _ bz)).trans bz; replace p170 := eq_true p170; replace q170 := eq_true q170; have p171 : 0 ≤ (ba : Int) := of_decide_eq_true (by first | (with_reducible assumption) | assumption); have q171 : ba < (l1.length : Int) := of_decide_eq_true (by first | (with_reducible assumption) | assumption); obtain ⟨bk, e171, bA, bB, bC, bD, bE⟩ := at_T25 bX.out ba p171 q171; have bL := bE; have bM := bD; have bN := bC; have bO := bB; have bP := bA
        cases e171
        replace bA := (HB.out.cell (World.block_lt_of_cell? w _ bA)).trans bA; replace bB := (HB.out.cell (World.block_lt_of_cell? w _ bB)).trans bB; replace bC := (HB.out.cell (World.block_lt_of_cell? w _ bC)).trans bC; replace bD := (HB.out.cell (World.block_lt_of_cell? w _ bD)).trans bD; replace bE := (HB.out.cell (World.block_lt_of_cell? w _ bE)).trans bE; replace p171 := eq_true p171; replace q171 := eq_true q171; refine start_ (n := 10) (S := fun w' => w'.cell? (bj.add ((ba).toNat * 5)) = some (.int .i64 ((rd_T25 l0 ba).f0)) ∧ w'.cell? ⟨(bj.add ((ba).toNat * 5)).block, (bj.add ((ba).toNat * 5)).off + 1, none⟩ = some (.int .i64 ((rd_T25 l0 ba).f1)) ∧ w'.cell? ⟨(bj.add ((ba).toNat * 5)).block, (bj.add ((ba).toNat * 5)).off + 2, none⟩ = some (.int .i64 ((rd_T25 l0 ba).f2)) ∧ w'.cell? ⟨(bj.add ((ba).toNat * 5)).block, (bj.add ((ba).toNat * 5)).off + 3, none⟩ = some (.int .i64 ((rd_T25 l0 ba).f3)) ∧ w'.cell? ⟨(bj.add ((ba).toNat * 5)).block, (bj.add ((ba).toNat * 5)).off + 4, none⟩ = some (.int .i64 ((rd_T25 l0 ba).f4)) ∧ w'.cell? (bk.add ((ba).toNat * 5)) = some (.int .i64 ((rd_T25 l1 ba).f0)) ∧ w'.cell? ⟨(bk.add ((ba).toNat * 5)).block, (bk.add ((ba).toNat * 5)).off + 1, none⟩ = some (.int .i64 ((rd_T25 l1 ba).f1)) ∧ w'.cell? ⟨(bk.add ((ba).toNat * 5)).block, (bk.add ((ba).toNat * 5)).off + 2, none⟩ = some (.int .i64 ((rd_T25 l1 ba).f2)) ∧ w'.cell? ⟨(bk.add ((ba).toNat * 5)).block, (bk.add ((ba).toNat * 5)).off + 3, none⟩ = some (.int .i64 ((rd_T25 l1 ba).f3)) ∧ w'.cell? ⟨(bk.add ((ba).toNat * 5)).block, (bk.add ((ba).toNat * 5)).off + 4, none⟩ = some (.int .i64 ((rd_T25 l1 ba).f4))) (ds := []) #[false, false, false, false, false, false, false, false, false, false] (by kernel_rfl) rfl rfl ⟨((HB.out.cell (World.block_lt_of_cell? w _ bK)).trans bK), ((HB.out.cell (World.block_lt_of_cell? w _ bJ)).trans bJ), ((HB.out.cell (World.block_lt_of_cell? w _ bI)).trans bI), ((HB.out.cell (World.block_lt_of_cell? w _ bH)).trans bH), ((HB.out.cell (World.block_lt_of_cell? w _ bG)).trans bG), ((HB.out.cell (World.block_lt_of_cell? w _ bP)).trans bP), ((HB.out.cell (World.block_lt_of_cell? w _ bO)).trans bO), ((HB.out.cell (World.block_lt_of_cell? w _ bN)).trans bN), ((HB.out.cell (World.block_lt_of_cell? w _ bM)).trans bM), ((HB.out.cell (World.block_lt_of_cell? w _ bL)).trans bL)⟩ (fun hHeld => ?_); refine with_tabW laws_eqInsS.tab6 laws_eqInsS.bits6 (fun HT_ HW_ => ?_); generalize wr.drew = w9 at HB bu bv bw bx bz bA bB bC bD bE hHeld ⊢; refine rP HT_.out 0 17 #[true, false, false, false, false, false, false, false, false, false] ?_; refine rP HT_.out 1 18 #[true, true, false, false, false, false, false, false, false, false] ?_; refine rP HT_.out 2 19 #[true, true, true, false, false, false, false, false, false, false] ?_; refine rP HT_.out 4 21 #[true, true, true, false, true, false, false, false, false, false] ?_; refine rP HT_.out 5 22 #[true, true, true, false, true, true, false, false, false, false] ?_; refine rP HT_.out 6 23 #[true, true, true, false, true, true, true, false, false, false] ?_; refine rT HT_.out HW_.out hHeld 3 20 #[true, true, true, true, true, true, true, false, false, false] ?_; refine rT HT_.out HW_.out hHeld 7 24 #[true, true, true, true, true, true, true, true, false, false] ?_; refine one_ (i := 8) (N := some 25) #[true, true, true, true, true, true, true, true, true, false] rfl rfl (one_of HT_.out (by kernel_rfl)) (by decide) (fun K hK => ?_); refine goesR Tryd.func24 (by kernel_rfl) rfl #[.agg #[.int .i64 ((rd_T25 l0 ba).f0), .int .i64 ((rd_T25 l0 ba).f1), .int .i64 ((rd_T25 l0 ba).f2), .int .i64 ((rd_T25 l0 ba).f3), .int .i64 ((rd_T25 l0 ba).f4)], .agg #[.int .i64 ((rd_T25 l1 ba).f0), .int .i64 ((rd_T25 l1 ba).f1), .int .i64 ((rd_T25 l1 ba).f2), .int .i64 ((rd_T25 l1 ba).f3), .int .i64 ((rd_T25 l1 ba).f4)]] (by rfl) rfl rfl ?_; (with_reducible refine (laws_eqIns.calls ((rd_T25 l0 ba).f0) ((rd_T25 l0 ba).f1) ((rd_T25 l0 ba).f2) ((rd_T25 l0 ba).f3) ((rd_T25 l0 ba).f4) ((rd_T25 l1 ba).f0) ((rd_T25 l1 ba).f1) ((rd_T25 l1 ba).f2) ((rd_T25 l1 ba).f3) ((rd_T25 l1 ba).f4) true _ A7.out).mono ?_); rintro e gQ ⟨rfl, hb⟩; refine ⟨_, rfl, ?_⟩; replace HB := nbs HB hb; (try clear hb); refine hK.out _ _ ⟨((HB.out.cell (World.block_lt_of_cell? w _ bK)).trans bK), ((HB.out.cell (World.block_lt_of_cell? w _ bJ)).trans bJ), ((HB.out.cell (World.block_lt_of_cell? w _ bI)).trans bI), ((HB.out.cell (World.block_lt_of_cell? w _ bH)).trans bH), ((HB.out.cell (World.block_lt_of_cell? w _ bG)).trans bG), ((HB.out.cell (World.block_lt_of_cell? w _ bP)).trans bP), ((HB.out.cell (World.block_lt_of_cell? w _ bO)).trans bO), ((HB.out.cell (World.block_lt_of_cell? w _ bN)).trans bN), ((HB.out.cell (World.block_lt_of_cell? w _ bM)).trans bM), ((HB.out.cell (World.block_lt_of_cell? w _ bL)).trans bL)⟩ (fun hHeld => ?_); clear hK K; refine norm_ (a' := ?_) ?_ ?_; rotate_left
        ·show Act.put _ (some 25) _ = _
         simp only [Act.put, List.setIfInBounds_toArray, List.set_cons_zero, List.set_cons_succ, i64_w, i32_w]; rfl
        refine rP HT_.out 9 26 #[true, true, true, true, true, true, true, true, true, true] ?_; refine done_ (done_of HT_.out (by kernel_rfl)) ?_
        try go_wp2
        go_roundg k1
        case measure => have := bY.out; omega
        case rel => exact ⟨(wrap64 (ba + 1)), (by first | rfl | (simp; done) | (simp [*]; done)), H', ⟨by have := bY.out; omega⟩, ⟨nbe HB⟩⟩
       ·replace c8 := Bool.eq_false_iff.mpr c8
        subst c8; have H1 : (some false) = some r := by rw [if_neg (show ¬ (false = true) by decide)] at H; exact H
        clear H; have H := H1; clear H1; obtain rfl := Option.some.inj H
        try go_wp2
        replace HB := Aside0.mk (below_drew1 HB.out); have p170 : 0 ≤ (ba : Int) := of_decide_eq_true (by first | (with_reducible assumption) | assumption); have q170 : ba < (l0.length : Int) := of_decide_eq_true (by first | (with_reducible assumption) | assumption); obtain ⟨bj, e170, bu, bv, bw, bx, bz⟩ := at_T25 bp.out ba p170 q170; have bG := bz; have bH := bx; have bI := bw; have bJ := bv; have bK := bu
        cases e170
        replace bu := (HB.out.cell (World.block_lt_of_cell? w _ bu)).trans bu; replace bv := (HB.out.cell (World.block_lt_of_cell? w _ bv)).trans bv; replace bw := (HB.out.cell (World.block_lt_of_cell? w _ bw)).trans bw; replace bx := (HB.out.cell (World.block_lt_of_cell? w _ bx)).trans bx; replace bz := (HB.out.cell (World.block_lt_of_cell? w _ bz)).trans bz; replace p170 := eq_true p170; replace q170 := eq_true q170; have p171 : 0 ≤ (ba : Int) := of_decide_eq_true (by first | (with_reducible assumption) | assumption); have q171 : ba < (l1.length : Int) := of_decide_eq_true (by first | (with_reducible assumption) | assumption); obtain ⟨bk, e171, bA, bB, bC, bD, bE⟩ := at_T25 bX.out ba p171 q171; have bL := bE; have bM := bD; have bN := bC; have bO := bB; have bP := bA
        cases e171
        replace bA := (HB.out.cell (World.block_lt_of_cell? w _ bA)).trans bA; replace bB := (HB.out.cell (World.block_lt_of_cell? w _ bB)).trans bB; replace bC := (HB.out.cell (World.block_lt_of_cell? w _ bC)).trans bC; replace bD := (HB.out.cell (World.block_lt_of_cell? w _ bD)).trans bD; replace bE := (HB.out.cell (World.block_lt_of_cell? w _ bE)).trans bE; replace p171 := eq_true p171; replace q171 := eq_true q171; refine start_ (n := 10) (S := fun w' => w'.cell? (bj.add ((ba).toNat * 5)) = some (.int .i64 ((rd_T25 l0 ba).f0)) ∧ w'.cell? ⟨(bj.add ((ba).toNat * 5)).block, (bj.add ((ba).toNat * 5)).off + 1, none⟩ = some (.int .i64 ((rd_T25 l0 ba).f1)) ∧ w'.cell? ⟨(bj.add ((ba).toNat * 5)).block, (bj.add ((ba).toNat * 5)).off + 2, none⟩ = some (.int .i64 ((rd_T25 l0 ba).f2)) ∧ w'.cell? ⟨(bj.add ((ba).toNat * 5)).block, (bj.add ((ba).toNat * 5)).off + 3, none⟩ = some (.int .i64 ((rd_T25 l0 ba).f3)) ∧ w'.cell? ⟨(bj.add ((ba).toNat * 5)).block, (bj.add ((ba).toNat * 5)).off + 4, none⟩ = some (.int .i64 ((rd_T25 l0 ba).f4)) ∧ w'.cell? (bk.add ((ba).toNat * 5)) = some (.int .i64 ((rd_T25 l1 ba).f0)) ∧ w'.cell? ⟨(bk.add ((ba).toNat * 5)).block, (bk.add ((ba).toNat * 5)).off + 1, none⟩ = some (.int .i64 ((rd_T25 l1 ba).f1)) ∧ w'.cell? ⟨(bk.add ((ba).toNat * 5)).block, (bk.add ((ba).toNat * 5)).off + 2, none⟩ = some (.int .i64 ((rd_T25 l1 ba).f2)) ∧ w'.cell? ⟨(bk.add ((ba).toNat * 5)).block, (bk.add ((ba).toNat * 5)).off + 3, none⟩ = some (.int .i64 ((rd_T25 l1 ba).f3)) ∧ w'.cell? ⟨(bk.add ((ba).toNat * 5)).block, (bk.add ((ba).toNat * 5)).off + 4, none⟩ = some (.int .i64 ((rd_T25 l1 ba).f4))) (ds := []) #[false, false, false, false, false, false, false, false, false, false] (by kernel_rfl) rfl rfl ⟨((HB.out.cell (World.block_lt_of_cell? w _ bK)).trans bK), ((HB.out.cell (World.block_lt_of_cell? w _ bJ)).trans bJ), ((HB.out.cell (World.block_lt_of_cell? w _ bI)).trans bI), ((HB.out.cell (World.block_lt_of_cell? w _ bH)).trans bH), ((HB.out.cell (World.block_lt_of_cell? w _ bG)).trans bG), ((HB.out.cell (World.block_lt_of_cell? w _ bP)).trans bP), ((HB.out.cell (World.block_lt_of_cell? w _ bO)).trans bO), ((HB.out.cell (World.block_lt_of_cell? w _ bN)).trans bN), ((HB.out.cell (World.block_lt_of_cell? w _ bM)).trans bM), ((HB.out.cell (World.block_lt_of_cell? w _ bL)).trans bL)⟩ (fun hHeld => ?_); refine with_tabW laws_eqInsS.tab6 laws_eqInsS.bits6 (fun HT_ HW_ => ?_); generalize wr.drew = gR at HB bu bv bw bx bz bA bB bC bD bE hHeld ⊢; refine rP HT_.out 0 17 #[true, false, false, false, false, false, false, false, false, false] ?_; refine rP HT_.out 1 18 #[true, true, false, false, false, false, false, false, false, false] ?_; refine rP HT_.out 2 19 #[true, true, true, false, false, false, false, false, false, false] ?_; refine rP HT_.out 4 21 #[true, true, true, false, true, false, false, false, false, false] ?_; refine rP HT_.out 5 22 #[true, true, true, false, true, true, false, false, false, false] ?_; refine rP HT_.out 6 23 #[true, true, true, false, true, true, true, false, false, false] ?_; refine rT HT_.out HW_.out hHeld 3 20 #[true, true, true, true, true, true, true, false, false, false] ?_; refine rT HT_.out HW_.out hHeld 7 24 #[true, true, true, true, true, true, true, true, false, false] ?_; refine one_ (i := 8) (N := some 25) #[true, true, true, true, true, true, true, true, true, false] rfl rfl (one_of HT_.out (by kernel_rfl)) (by decide) (fun K hK => ?_); refine goesR Tryd.func24 (by kernel_rfl) rfl #[.agg #[.int .i64 ((rd_T25 l0 ba).f0), .int .i64 ((rd_T25 l0 ba).f1), .int .i64 ((rd_T25 l0 ba).f2), .int .i64 ((rd_T25 l0 ba).f3), .int .i64 ((rd_T25 l0 ba).f4)], .agg #[.int .i64 ((rd_T25 l1 ba).f0), .int .i64 ((rd_T25 l1 ba).f1), .int .i64 ((rd_T25 l1 ba).f2), .int .i64 ((rd_T25 l1 ba).f3), .int .i64 ((rd_T25 l1 ba).f4)]] (by rfl) rfl rfl ?_; (with_reducible refine (laws_eqIns.calls ((rd_T25 l0 ba).f0) ((rd_T25 l0 ba).f1) ((rd_T25 l0 ba).f2) ((rd_T25 l0 ba).f3) ((rd_T25 l0 ba).f4) ((rd_T25 l1 ba).f0) ((rd_T25 l1 ba).f1) ((rd_T25 l1 ba).f2) ((rd_T25 l1 ba).f3) ((rd_T25 l1 ba).f4) false _ A7.out).mono ?_); rintro e db ⟨rfl, hb⟩; refine ⟨_, rfl, ?_⟩; replace HB := nbs HB hb; (try clear hb); refine hK.out _ _ ⟨((HB.out.cell (World.block_lt_of_cell? w _ bK)).trans bK), ((HB.out.cell (World.block_lt_of_cell? w _ bJ)).trans bJ), ((HB.out.cell (World.block_lt_of_cell? w _ bI)).trans bI), ((HB.out.cell (World.block_lt_of_cell? w _ bH)).trans bH), ((HB.out.cell (World.block_lt_of_cell? w _ bG)).trans bG), ((HB.out.cell (World.block_lt_of_cell? w _ bP)).trans bP), ((HB.out.cell (World.block_lt_of_cell? w _ bO)).trans bO), ((HB.out.cell (World.block_lt_of_cell? w _ bN)).trans bN), ((HB.out.cell (World.block_lt_of_cell? w _ bM)).trans bM), ((HB.out.cell (World.block_lt_of_cell? w _ bL)).trans bL)⟩ (fun hHeld => ?_); clear hK K; refine norm_ (a' := ?_) ?_ ?_; rotate_left
        ·show Act.put _ (some 25) _ = _
         simp only [Act.put, List.setIfInBounds_toArray, List.set_cons_zero, List.set_cons_succ, i64_w, i32_w]; rfl
        refine rP HT_.out 9 26 #[true, true, true, true, true, true, true, true, true, true] ?_; refine done_ (done_of HT_.out (by kernel_rfl)) ?_
        try go_wp2
        go_ret
        exact ⟨er_, nbe HB⟩
      ·rw [if_neg c6] at H
       exact absurd H (by simp)
     ·rw [if_neg c5] at H
      exact absurd H (by simp)
    ·rw [if_neg c4] at H
     have c4b0 : decide (ba < (l0.length : Int)) = false := decide_eq_false c4; clear c4; obtain rfl := Option.some.inj H; go_wp2
     go_ret
     exact ⟨er_, nbe HB⟩
 ·rw [if_neg c3] at H
  have c3b0 : ((l0.length : Int) == (l1.length : Int)) = false := beq_eq_false_iff_ne.mpr c3; have c3b1 : ((l0.length : Int) != (l1.length : Int)) = true := bne_iff_ne.mpr c3; have c3b2 : (l0.length == l1.length) = false := by first | simpa using c3 | (simp at c3 ⊢; omega)
  obtain rfl := Option.some.inj H
  go_enter Tryd.func12, Tryd.ntmps12
  go_wp2
  go_ret
  exact ⟨er_, nbe HB⟩

/-! ### laws_FnExactCodeText: function 4 -/
def laws_FnExactCodeText.f (k : Nat) (l0 : List (S23)) : Option (Bool) := (laws_szInsS.f l0 1048576).bind fun br => (if br < 0 then (some true) else ((laws_toInsS.f k l0).bind fun bo => ((spec_CodeText.f k bo).bind fun bl => ((laws_toInsS.f k l0).bind fun bd => ((impl_CodeText.f k bd).bind fun bh => (if bh.toList = bl.toList then ((laws_toInsS.f k l0).bind fun bi => ((laws_eqInsS.f k bd bi).bind fun bm => (if bm = true then (some true) else (some false)))) else (some false)))))))
theorem laws_FnExactCodeText.mono : ∀ a0 k, LeO (laws_FnExactCodeText.f k a0) (laws_FnExactCodeText.f (k + 1) a0) := by
 intro a0 k
 unfold laws_FnExactCodeText.f
 repeat' first
   | (with_reducible exact impl_CodeText.mono _ _)
   | (with_reducible exact laws_eqInsS.mono _ _ _)
   | (with_reducible exact laws_toInsS.mono _ _)
   | (with_reducible exact spec_CodeText.mono _ _)
   | (with_reducible exact LeO.refl _)
   | (with_reducible exact LeO.none _)
   | (with_reducible refine LeO.ite ?_ ?_)
   | (with_reducible refine LeO.bind ?_ (fun _ => ?_))
   | exact impl_CodeText.mono _ _
   | exact laws_eqInsS.mono _ _ _
   | exact laws_toInsS.mono _ _
   | exact spec_CodeText.mono _ _
   | exact LeO.none _
   | refine LeO.ite ?_ ?_
   | refine LeO.bind ?_ (fun _ => ?_)
set_option maxHeartbeats 8000000 in
set_option maxRecDepth 100000 in
theorem laws_FnExactCodeText.calls (k : Nat) (A0 : Option Addr) (c0 : Nat) (l0 : List (S23)) (r : Bool) (w : World) (hr0 : Kd.C k23 w A0 l0.length l0) (hc0 : l0.length ≤ c0) (h : laws_FnExactCodeText.f k l0 = some r) (hT_ : TabW w) :
  Calls Tryd.prog 4 #[.slice A0 l0.length c0] w fun e w' => e = .returned (.bool r) ∧ Below w.heap.size w w' := by
 have HT := Aside0.mk hT_; clear hT_
 have bp := Aside0.mk hr0; have bq := Aside0.mk hc0; clear hr0 hc0; have HB := Aside0.mk (Below.refl w.heap.size w); have H : ((laws_szInsS.f l0 1048576).bind fun br => (if br < 0 then (some true) else ((laws_toInsS.f k l0).bind fun bo => ((spec_CodeText.f k bo).bind fun bl => ((laws_toInsS.f k l0).bind fun bd => ((impl_CodeText.f k bd).bind fun bh => (if bh.toList = bl.toList then ((laws_toInsS.f k l0).bind fun bi => ((laws_eqInsS.f k bd bi).bind fun bm => (if bm = true then (some true) else (some false)))) else (some false)))))))) = some r := h; clear h; replace H := Option.bind_eq_some_iff.mp H; obtain ⟨br, A20, H⟩ := H; replace H : (if br < 0 then (some true) else ((laws_toInsS.f k l0).bind fun bo => ((spec_CodeText.f k bo).bind fun bl => ((laws_toInsS.f k l0).bind fun bd => ((impl_CodeText.f k bd).bind fun bh => (if bh.toList = bl.toList then ((laws_toInsS.f k l0).bind fun bi => ((laws_eqInsS.f k bd bi).bind fun bm => (if bm = true then (some true) else (some false)))) else (some false))))))) = some r := H; have A2 := Aside0.mk A20; clear A20
 by_cases c3 : br < 0
 ·rw [if_pos c3] at H
  have c3b0 : decide (br < 0) = true := decide_eq_true c3; clear c3; obtain rfl := Option.some.inj H
  go_enter Tryd.func4, Tryd.ntmps4
  go_wp2_with (first | ((with_reducible refine gate_callee (f := 8) rfl ?_); refine goesM (some 9) rfl rfl Tryd.func8 (by kernel_rfl) rfl #[.slice A0 l0.length c0, .int .i64 1048576] rfl ?_; (with_reducible refine (laws_szInsS.calls _ _ l0 1048576 br _ ?side1 ?side2 A2.out).mono ?_); (case side1 => exact nC bp); (case side2 => exact bq.out); rintro e w' ⟨rfl, ⟨nd, rfl⟩⟩; refine ⟨_, rfl, ?_⟩))
  go_ret
  exact ⟨er_, nbe HB⟩
 ·rw [if_neg c3] at H
  have c3b0 : decide (br < 0) = false := decide_eq_false c3; clear c3; replace H := Option.bind_eq_some_iff.mp H; obtain ⟨bo, A40, H⟩ := H; replace H : ((spec_CodeText.f k bo).bind fun bl => ((laws_toInsS.f k l0).bind fun bd => ((impl_CodeText.f k bd).bind fun bh => (if bh.toList = bl.toList then ((laws_toInsS.f k l0).bind fun bi => ((laws_eqInsS.f k bd bi).bind fun bm => (if bm = true then (some true) else (some false)))) else (some false))))) = some r := H; have A4 := Aside0.mk A40; clear A40; replace H := Option.bind_eq_some_iff.mp H; obtain ⟨bl, A50, H⟩ := H; replace H : ((laws_toInsS.f k l0).bind fun bd => ((impl_CodeText.f k bd).bind fun bh => (if bh.toList = bl.toList then ((laws_toInsS.f k l0).bind fun bi => ((laws_eqInsS.f k bd bi).bind fun bm => (if bm = true then (some true) else (some false)))) else (some false)))) = some r := H; have A5 := Aside0.mk A50; clear A50; replace H := Option.bind_eq_some_iff.mp H; obtain ⟨bd, A60, H⟩ := H; replace H : ((impl_CodeText.f k bd).bind fun bh => (if bh.toList = bl.toList then ((laws_toInsS.f k l0).bind fun bi => ((laws_eqInsS.f k bd bi).bind fun bm => (if bm = true then (some true) else (some false)))) else (some false))) = some r := H; have A6 := Aside0.mk A60; clear A60; replace H := Option.bind_eq_some_iff.mp H; obtain ⟨bh, A70, H⟩ := H; replace H : (if bh.toList = bl.toList then ((laws_toInsS.f k l0).bind fun bi => ((laws_eqInsS.f k bd bi).bind fun bm => (if bm = true then (some true) else (some false)))) else (some false)) = some r := H; have A7 := Aside0.mk A70; clear A70
  by_cases c8 : bh.toList = bl.toList
  ·rw [if_pos c8] at H
   have c8b0 : (bh.toList == bl.toList) = true := beq_iff_eq.mpr c8; have c8b1 : (bh.toList != bl.toList) = false := bne_eq_false_iff_eq.mpr c8; clear c8; replace H := Option.bind_eq_some_iff.mp H; obtain ⟨bi, A90, H⟩ := H; replace H : ((laws_eqInsS.f k bd bi).bind fun bm => (if bm = true then (some true) else (some false))) = some r := H; have A9 := Aside0.mk A90; clear A90; replace H := Option.bind_eq_some_iff.mp H; obtain ⟨bm, A100, H⟩ := H; replace H : (if bm = true then (some true) else (some false)) = some r := H; have A10 := Aside0.mk A100; clear A100
   by_cases c11 : bm = true
   ·subst c11
    have H1 : (some true) = some r := by rw [if_pos rfl] at H; exact H
    clear H; have H := H1; clear H1; obtain rfl := Option.some.inj H
    go_enter Tryd.func4, Tryd.ntmps4
    go_wp2_with (first | ((with_reducible refine gate_callee (f := 8) rfl ?_); refine goesM (some 9) rfl rfl Tryd.func8 (by kernel_rfl) rfl #[.slice A0 l0.length c0, .int .i64 1048576] rfl ?_; (with_reducible refine (laws_szInsS.calls _ _ l0 1048576 br _ ?side1 ?side2 A2.out).mono ?_); (case side1 => exact nC bp); (case side2 => exact bq.out); rintro e w' ⟨rfl, ⟨nd, rfl⟩⟩; refine ⟨_, rfl, ?_⟩) | ((with_reducible refine gate_callee (f := 10) rfl ?_); refine goesM (some 13) rfl rfl Tryd.func10 (by kernel_rfl) rfl #[.slice A0 l0.length c0] rfl ?_; (with_reducible refine (laws_toInsS.calls k _ _ l0 bo _ ?side1 ?side2 A4.out).mono ?_); (case side1 => exact nC bp); (case side2 => exact bq.out); rintro e db ⟨bZ, rfl, bg, hb⟩; refine ⟨_, rfl, ?_⟩; have bb := Aside0.mk (Kd.R_lower bg (bsz HB)); replace HB := nbs HB hb; (try clear hb); (try clear bg); obtain ⟨dc, dd, de⟩ := Kd.R_slice bb.out; subst de) | ((with_reducible refine gate_callee (f := 9) rfl ?_); refine goesM (some 14) rfl rfl Tryd.func9 (by kernel_rfl) rfl #[.slice dc bo.length dd] rfl ?_; (with_reducible refine (spec_CodeText.calls k _ _ bo bl _ ?side1 ?side2 A5.out).mono ?_); (case side1 => repeat (first | exact (Kd.R_reads' bb.out).2.2 | (with_reducible refine Kd.C_alloc ?_ _) | (with_reducible refine Kd.C_drewN ?_ _) | (with_reducible refine Kd.C_drew ?_))); (case side2 => exact (Kd.R_reads' bb.out).2.1); rintro e b5 ⟨rfl, hb⟩; refine ⟨_, rfl, ?_⟩; replace bb := nR bb hb; replace HB := nbs HB hb; (try clear hb)) | ((with_reducible refine gate_callee (f := 10) rfl ?_); refine goesM (some 16) rfl rfl Tryd.func10 (by kernel_rfl) rfl #[.slice A0 l0.length c0] rfl ?_; (with_reducible refine (laws_toInsS.calls k _ _ l0 bd _ ?side1 ?side2 A6.out).mono ?_); (case side1 => exact nCb bp HB); (case side2 => exact bq.out); rintro e gS ⟨b0, rfl, bg, hb⟩; refine ⟨_, rfl, ?_⟩; have bf := Aside0.mk (Kd.R_lower (Kd.R_new' bg (Kd.R_lt (nRo bb))) (bsz HB)); replace bb := Aside0.mk (Kd.R_elder' (nRo bb) (Kd.R_base bg) hb); replace HB := nbs HB hb; (try clear hb); (try clear bg); obtain ⟨b1, b2, df⟩ := Kd.R_slice bf.out; subst df) | ((with_reducible refine gate_callee (f := 11) rfl ?_); refine goesM (some 18) rfl rfl Tryd.func11 (by kernel_rfl) rfl #[.slice b1 bd.length b2] rfl ?_; (with_reducible refine (impl_CodeText.calls k _ _ bd bh _ ?side1 ?side2 A7.out ?hT).mono ?_); (case hT => exact nT HT HB); (case side1 => repeat (first | exact (Kd.R_reads' bf.out).2.2 | (with_reducible refine Kd.C_alloc ?_ _) | (with_reducible refine Kd.C_drewN ?_ _) | (with_reducible refine Kd.C_drew ?_))); (case side2 => exact (Kd.R_reads' bf.out).2.1); rintro e gT ⟨rfl, hb⟩; refine ⟨_, rfl, ?_⟩; replace bb := nR bb hb; replace bf := nR bf hb; replace HB := nbs HB hb; (try clear hb)) | ((with_reducible refine gate_callee (f := 10) rfl ?_); refine goesM (some 24) rfl rfl Tryd.func10 (by kernel_rfl) rfl #[.slice A0 l0.length c0] rfl ?_; (with_reducible refine (laws_toInsS.calls k _ _ l0 bi _ ?side1 ?side2 A9.out).mono ?_); (case side1 => exact nCb bp HB); (case side2 => exact bq.out); rintro e b6 ⟨dg, rfl, bg, hb⟩; refine ⟨_, rfl, ?_⟩; have bF := Aside0.mk (Kd.R_lower (Kd.R_new' (Kd.R_new' bg (Kd.R_lt (nRo bb))) (Kd.R_lt (nRo bf))) (bsz HB)); replace bb := Aside0.mk (Kd.R_elder' (nRo bb) (Kd.R_base bg) hb); replace bf := Aside0.mk (Kd.R_elder' (nRo bf) (Kd.R_base bg) hb); replace HB := nbs HB hb; (try clear hb); (try clear bg); obtain ⟨dh, di, dj⟩ := Kd.R_slice bF.out; subst dj) | ((with_reducible refine gate_callee (f := 12) rfl ?_); refine goesM (some 25) rfl rfl Tryd.func12 (by kernel_rfl) rfl #[.slice b1 bd.length b2, .slice dh bi.length di] rfl ?_; (with_reducible refine (laws_eqInsS.calls k _ _ bd _ _ bi true _ ?side1 ?side2 ?side3 ?side4 A10.out).mono ?_); (case side1 => repeat (first | exact (Kd.R_reads' bf.out).2.2 | (with_reducible refine Kd.C_alloc ?_ _) | (with_reducible refine Kd.C_drewN ?_ _) | (with_reducible refine Kd.C_drew ?_))); (case side2 => exact (Kd.R_reads' bf.out).2.1); (case side3 => repeat (first | exact (Kd.R_reads' bF.out).2.2 | (with_reducible refine Kd.C_alloc ?_ _) | (with_reducible refine Kd.C_drewN ?_ _) | (with_reducible refine Kd.C_drew ?_))); (case side4 => exact (Kd.R_reads' bF.out).2.1); rintro e gU ⟨rfl, hb⟩; refine ⟨_, rfl, ?_⟩; replace bb := nR bb hb; replace bf := nR bf hb; replace bF := nR bF hb; replace HB := nbs HB hb; (try clear hb)))
    go_ret
    exact ⟨er_, nbe HB⟩
   ·replace c11 := Bool.eq_false_iff.mpr c11
    subst c11; have H1 : (some false) = some r := by rw [if_neg (show ¬ (false = true) by decide)] at H; exact H
    clear H; have H := H1; clear H1; obtain rfl := Option.some.inj H
    go_enter Tryd.func4, Tryd.ntmps4
    go_wp2_with (first | ((with_reducible refine gate_callee (f := 8) rfl ?_); refine goesM (some 9) rfl rfl Tryd.func8 (by kernel_rfl) rfl #[.slice A0 l0.length c0, .int .i64 1048576] rfl ?_; (with_reducible refine (laws_szInsS.calls _ _ l0 1048576 br _ ?side1 ?side2 A2.out).mono ?_); (case side1 => exact nC bp); (case side2 => exact bq.out); rintro e w' ⟨rfl, ⟨nd, rfl⟩⟩; refine ⟨_, rfl, ?_⟩) | ((with_reducible refine gate_callee (f := 10) rfl ?_); refine goesM (some 13) rfl rfl Tryd.func10 (by kernel_rfl) rfl #[.slice A0 l0.length c0] rfl ?_; (with_reducible refine (laws_toInsS.calls k _ _ l0 bo _ ?side1 ?side2 A4.out).mono ?_); (case side1 => exact nC bp); (case side2 => exact bq.out); rintro e gV ⟨bZ, rfl, bg, hb⟩; refine ⟨_, rfl, ?_⟩; have bb := Aside0.mk (Kd.R_lower bg (bsz HB)); replace HB := nbs HB hb; (try clear hb); (try clear bg); obtain ⟨dk, dl, dm⟩ := Kd.R_slice bb.out; subst dm) | ((with_reducible refine gate_callee (f := 9) rfl ?_); refine goesM (some 14) rfl rfl Tryd.func9 (by kernel_rfl) rfl #[.slice dk bo.length dl] rfl ?_; (with_reducible refine (spec_CodeText.calls k _ _ bo bl _ ?side1 ?side2 A5.out).mono ?_); (case side1 => repeat (first | exact (Kd.R_reads' bb.out).2.2 | (with_reducible refine Kd.C_alloc ?_ _) | (with_reducible refine Kd.C_drewN ?_ _) | (with_reducible refine Kd.C_drew ?_))); (case side2 => exact (Kd.R_reads' bb.out).2.1); rintro e b7 ⟨rfl, hb⟩; refine ⟨_, rfl, ?_⟩; replace bb := nR bb hb; replace HB := nbs HB hb; (try clear hb)) | ((with_reducible refine gate_callee (f := 10) rfl ?_); refine goesM (some 16) rfl rfl Tryd.func10 (by kernel_rfl) rfl #[.slice A0 l0.length c0] rfl ?_; (with_reducible refine (laws_toInsS.calls k _ _ l0 bd _ ?side1 ?side2 A6.out).mono ?_); (case side1 => exact nCb bp HB); (case side2 => exact bq.out); rintro e b8 ⟨b0, rfl, bg, hb⟩; refine ⟨_, rfl, ?_⟩; have bf := Aside0.mk (Kd.R_lower (Kd.R_new' bg (Kd.R_lt (nRo bb))) (bsz HB)); replace bb := Aside0.mk (Kd.R_elder' (nRo bb) (Kd.R_base bg) hb); replace HB := nbs HB hb; (try clear hb); (try clear bg); obtain ⟨b3, b4, dn⟩ := Kd.R_slice bf.out; subst dn) | ((with_reducible refine gate_callee (f := 11) rfl ?_); refine goesM (some 18) rfl rfl Tryd.func11 (by kernel_rfl) rfl #[.slice b3 bd.length b4] rfl ?_; (with_reducible refine (impl_CodeText.calls k _ _ bd bh _ ?side1 ?side2 A7.out ?hT).mono ?_); (case hT => exact nT HT HB); (case side1 => repeat (first | exact (Kd.R_reads' bf.out).2.2 | (with_reducible refine Kd.C_alloc ?_ _) | (with_reducible refine Kd.C_drewN ?_ _) | (with_reducible refine Kd.C_drew ?_))); (case side2 => exact (Kd.R_reads' bf.out).2.1); rintro e gW ⟨rfl, hb⟩; refine ⟨_, rfl, ?_⟩; replace bb := nR bb hb; replace bf := nR bf hb; replace HB := nbs HB hb; (try clear hb)) | ((with_reducible refine gate_callee (f := 10) rfl ?_); refine goesM (some 24) rfl rfl Tryd.func10 (by kernel_rfl) rfl #[.slice A0 l0.length c0] rfl ?_; (with_reducible refine (laws_toInsS.calls k _ _ l0 bi _ ?side1 ?side2 A9.out).mono ?_); (case side1 => exact nCb bp HB); (case side2 => exact bq.out); rintro e gX ⟨dg, rfl, bg, hb⟩; refine ⟨_, rfl, ?_⟩; have bF := Aside0.mk (Kd.R_lower (Kd.R_new' (Kd.R_new' bg (Kd.R_lt (nRo bb))) (Kd.R_lt (nRo bf))) (bsz HB)); replace bb := Aside0.mk (Kd.R_elder' (nRo bb) (Kd.R_base bg) hb); replace bf := Aside0.mk (Kd.R_elder' (nRo bf) (Kd.R_base bg) hb); replace HB := nbs HB hb; (try clear hb); (try clear bg); obtain ⟨dp, dq, dr⟩ := Kd.R_slice bF.out; subst dr) | ((with_reducible refine gate_callee (f := 12) rfl ?_); refine goesM (some 25) rfl rfl Tryd.func12 (by kernel_rfl) rfl #[.slice b3 bd.length b4, .slice dp bi.length dq] rfl ?_; (with_reducible refine (laws_eqInsS.calls k _ _ bd _ _ bi false _ ?side1 ?side2 ?side3 ?side4 A10.out).mono ?_); (case side1 => repeat (first | exact (Kd.R_reads' bf.out).2.2 | (with_reducible refine Kd.C_alloc ?_ _) | (with_reducible refine Kd.C_drewN ?_ _) | (with_reducible refine Kd.C_drew ?_))); (case side2 => exact (Kd.R_reads' bf.out).2.1); (case side3 => repeat (first | exact (Kd.R_reads' bF.out).2.2 | (with_reducible refine Kd.C_alloc ?_ _) | (with_reducible refine Kd.C_drewN ?_ _) | (with_reducible refine Kd.C_drew ?_))); (case side4 => exact (Kd.R_reads' bF.out).2.1); rintro e b9 ⟨rfl, hb⟩; refine ⟨_, rfl, ?_⟩; replace bb := nR bb hb; replace bf := nR bf hb; replace bF := nR bF hb; replace HB := nbs HB hb; (try clear hb)))
    go_ret
    exact ⟨er_, nbe HB⟩
  ·rw [if_neg c8] at H
   have c8b0 : (bh.toList == bl.toList) = false := beq_eq_false_iff_ne.mpr c8; have c8b1 : (bh.toList != bl.toList) = true := bne_iff_ne.mpr c8; obtain rfl := Option.some.inj H
   go_enter Tryd.func4, Tryd.ntmps4
   go_wp2_with (first | ((with_reducible refine gate_callee (f := 8) rfl ?_); refine goesM (some 9) rfl rfl Tryd.func8 (by kernel_rfl) rfl #[.slice A0 l0.length c0, .int .i64 1048576] rfl ?_; (with_reducible refine (laws_szInsS.calls _ _ l0 1048576 br _ ?side1 ?side2 A2.out).mono ?_); (case side1 => exact nC bp); (case side2 => exact bq.out); rintro e w' ⟨rfl, ⟨nd, rfl⟩⟩; refine ⟨_, rfl, ?_⟩) | ((with_reducible refine gate_callee (f := 10) rfl ?_); refine goesM (some 13) rfl rfl Tryd.func10 (by kernel_rfl) rfl #[.slice A0 l0.length c0] rfl ?_; (with_reducible refine (laws_toInsS.calls k _ _ l0 bo _ ?side1 ?side2 A4.out).mono ?_); (case side1 => exact nC bp); (case side2 => exact bq.out); rintro e gY ⟨bZ, rfl, bg, hb⟩; refine ⟨_, rfl, ?_⟩; have bb := Aside0.mk (Kd.R_lower bg (bsz HB)); replace HB := nbs HB hb; (try clear hb); (try clear bg); obtain ⟨dt, du, dv⟩ := Kd.R_slice bb.out; subst dv) | ((with_reducible refine gate_callee (f := 9) rfl ?_); refine goesM (some 14) rfl rfl Tryd.func9 (by kernel_rfl) rfl #[.slice dt bo.length du] rfl ?_; (with_reducible refine (spec_CodeText.calls k _ _ bo bl _ ?side1 ?side2 A5.out).mono ?_); (case side1 => repeat (first | exact (Kd.R_reads' bb.out).2.2 | (with_reducible refine Kd.C_alloc ?_ _) | (with_reducible refine Kd.C_drewN ?_ _) | (with_reducible refine Kd.C_drew ?_))); (case side2 => exact (Kd.R_reads' bb.out).2.1); rintro e gZ ⟨rfl, hb⟩; refine ⟨_, rfl, ?_⟩; replace bb := nR bb hb; replace HB := nbs HB hb; (try clear hb)) | ((with_reducible refine gate_callee (f := 10) rfl ?_); refine goesM (some 16) rfl rfl Tryd.func10 (by kernel_rfl) rfl #[.slice A0 l0.length c0] rfl ?_; (with_reducible refine (laws_toInsS.calls k _ _ l0 bd _ ?side1 ?side2 A6.out).mono ?_); (case side1 => exact nCb bp HB); (case side2 => exact bq.out); rintro e da ⟨b0, rfl, bg, hb⟩; refine ⟨_, rfl, ?_⟩; have bf := Aside0.mk (Kd.R_lower (Kd.R_new' bg (Kd.R_lt (nRo bb))) (bsz HB)); replace bb := Aside0.mk (Kd.R_elder' (nRo bb) (Kd.R_base bg) hb); replace HB := nbs HB hb; (try clear hb); (try clear bg); obtain ⟨dw, dx, dy⟩ := Kd.R_slice bf.out; subst dy) | ((with_reducible refine gate_callee (f := 11) rfl ?_); refine goesM (some 18) rfl rfl Tryd.func11 (by kernel_rfl) rfl #[.slice dw bd.length dx] rfl ?_; (with_reducible refine (impl_CodeText.calls k _ _ bd bh _ ?side1 ?side2 A7.out ?hT).mono ?_); (case hT => exact nT HT HB); (case side1 => repeat (first | exact (Kd.R_reads' bf.out).2.2 | (with_reducible refine Kd.C_alloc ?_ _) | (with_reducible refine Kd.C_drewN ?_ _) | (with_reducible refine Kd.C_drew ?_))); (case side2 => exact (Kd.R_reads' bf.out).2.1); rintro e g0 ⟨rfl, hb⟩; refine ⟨_, rfl, ?_⟩; replace bb := nR bb hb; replace bf := nR bf hb; replace HB := nbs HB hb; (try clear hb)))
   go_ret
   exact ⟨er_, nbe HB⟩

end Go.Proofs.YteamcnoabglobaaDoor.PFnExactCodeText
