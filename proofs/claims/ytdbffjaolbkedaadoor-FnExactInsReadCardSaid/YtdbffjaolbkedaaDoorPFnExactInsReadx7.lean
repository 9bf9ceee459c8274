-- Written by a program of this session (wip/patch.py turns a copy of the kit's print): the functions that the law reaches, and their walks.
import Derived.Test.YtdbffjaolbkedaaDoorPFnExactInsReadx0
import Derived.Test.YtdbffjaolbkedaaDoorPFnExactInsReadx3
import Derived.Test.YtdbffjaolbkedaaDoorPFnExactInsReadx6
import Derived.Test.YtdbffjaolbkedaaDoorCFnExactInsRead
namespace Go.Proofs.YtdbffjaolbkedaaDoor.PFnExactInsRead
open Go.RowKit Go.Proofs.YtdbffjaolbkedaaDoorW.PrintWords Go.Proofs.YtdbffjaolbkedaaDoorW.PrintLast Go.Proofs.YtdbffjaolbkedaaDoorW.PrintMore Go.Proofs.YtdbffjaolbkedaaDoorW.Mine
attribute [local go_sem] max2_int min2_int max_two min_two max_three min_three max_four min_four   -- for this text's walks alone
set_option linter.unusedVariables false
set_option linter.unusedSimpArgs false

/-! ### laws_eqIns: function 7 -/
def laws_eqIns.f (a0_0 : Int) (a0_1 : Int) (a0_2 : Int) (a0_3 : Int) (a0_4 : Int) (a1_0 : Int) (a1_1 : Int) (a1_2 : Int) (a1_3 : Int) (a1_4 : Int) : Option (Bool) := if a0_0 = a1_0 then (if a0_1 = a1_1 then (if a0_2 = a1_2 then (if a0_3 = a1_3 then (if a0_4 = a1_4 then (some true) else (some false)) else (some false)) else (some false)) else (some false)) else (some false)
set_option maxHeartbeats 8000000 in
set_option maxRecDepth 100000 in
theorem laws_eqIns.calls (a0_0 : Int) (a0_1 : Int) (a0_2 : Int) (a0_3 : Int) (a0_4 : Int) (a1_0 : Int) (a1_1 : Int) (a1_2 : Int) (a1_3 : Int) (a1_4 : Int) (r : Bool) (w : World) (h : laws_eqIns.f a0_0 a0_1 a0_2 a0_3 a0_4 a1_0 a1_1 a1_2 a1_3 a1_4 = some r) :
  Calls Tryd.prog 7 #[.agg #[.int .i64 a0_0, .int .i64 a0_1, .int .i64 a0_2, .int .i64 a0_3, .int .i64 a0_4], .agg #[.int .i64 a1_0, .int .i64 a1_1, .int .i64 a1_2, .int .i64 a1_3, .int .i64 a1_4]] w fun e w' => e = .returned (.bool r) ∧ Below w.heap.size w w' := by
 have hu23 := Tryd.underlying23; have HB := Aside0.mk (Below.refl w.heap.size w); have H : (if a0_0 = a1_0 then (if a0_1 = a1_1 then (if a0_2 = a1_2 then (if a0_3 = a1_3 then (if a0_4 = a1_4 then (some true) else (some false)) else (some false)) else (some false)) else (some false)) else (some false)) = some r := h; clear h
 by_cases c3 : a0_0 = a1_0
 ·rw [if_pos c3] at H
  have c3b0 : (a0_0 == a1_0) = true := beq_iff_eq.mpr c3; have c3b1 : (a0_0 != a1_0) = false := bne_eq_false_iff_eq.mpr c3; clear c3
  by_cases c4 : a0_1 = a1_1
  ·rw [if_pos c4] at H
   have c4b0 : (a0_1 == a1_1) = true := beq_iff_eq.mpr c4; have c4b1 : (a0_1 != a1_1) = false := bne_eq_false_iff_eq.mpr c4; clear c4
   by_cases c5 : a0_2 = a1_2
   ·rw [if_pos c5] at H
    have c5b0 : (a0_2 == a1_2) = true := beq_iff_eq.mpr c5; have c5b1 : (a0_2 != a1_2) = false := bne_eq_false_iff_eq.mpr c5; clear c5
    by_cases c6 : a0_3 = a1_3
    ·rw [if_pos c6] at H
     have c6b0 : (a0_3 == a1_3) = true := beq_iff_eq.mpr c6; have c6b1 : (a0_3 != a1_3) = false := bne_eq_false_iff_eq.mpr c6; clear c6
     by_cases c7 : a0_4 = a1_4
     ·rw [if_pos c7] at H
      have c7b0 : (a0_4 == a1_4) = true := beq_iff_eq.mpr c7; have c7b1 : (a0_4 != a1_4) = false := bne_eq_false_iff_eq.mpr c7; clear c7; obtain rfl := Option.some.inj H
      go_enter Tryd.func7, Tryd.ntmps7
      go_wp2_with (first | ((with_reducible refine gate_dst (N := 2) rfl ?_); refine bxe 2 #[.int .i64 a0_0, .int .i64 a0_1, .int .i64 a0_2, .int .i64 a0_3, .int .i64 a0_4] 23 ?_; intro bw hg w8 hbox hb; have ba := hbox; have bx := nge HB hg; have bz := nge HB hg; replace HB := nbs HB hb; clear hb hbox hg) | ((with_reducible refine gate_dst (N := 3) rfl ?_); refine bxe 3 #[.int .i64 a1_0, .int .i64 a1_1, .int .i64 a1_2, .int .i64 a1_3, .int .i64 a1_4] 23 ?_; intro bA hg w9 hbox hb; have bd := hbox; have bB := nge HB hg; have bC := nge HB hg; have bt := nlt ba hg; have bu := ngt ba hg; replace ba := nblk ba hb; replace HB := nbs HB hb; clear hb hbox hg; have bY := bt.out; have bZ := bu.out; obtain ⟨b0, b1, b2, b3, b4⟩ := c5e ba; obtain ⟨b5, b6, b7, b8, b9⟩ := z5_ ba; obtain ⟨da, db, dc, dd, de⟩ := c5e bd; obtain ⟨df, dg, dh, di, dj⟩ := z5_ bd))
      go_ret
      exact ⟨er_, nbe HB⟩
     ·rw [if_neg c7] at H
      have c7b0 : (a0_4 == a1_4) = false := beq_eq_false_iff_ne.mpr c7; have c7b1 : (a0_4 != a1_4) = true := bne_iff_ne.mpr c7; obtain rfl := Option.some.inj H
      go_enter Tryd.func7, Tryd.ntmps7
      go_wp2_with (first | ((with_reducible refine gate_dst (N := 2) rfl ?_); refine bxe 2 #[.int .i64 a0_0, .int .i64 a0_1, .int .i64 a0_2, .int .i64 a0_3, .int .i64 a0_4] 23 ?_; intro bw hg dk hbox hb; have ba := hbox; have bx := nge HB hg; have bz := nge HB hg; replace HB := nbs HB hb; clear hb hbox hg) | ((with_reducible refine gate_dst (N := 3) rfl ?_); refine bxe 3 #[.int .i64 a1_0, .int .i64 a1_1, .int .i64 a1_2, .int .i64 a1_3, .int .i64 a1_4] 23 ?_; intro bA hg dl hbox hb; have bd := hbox; have bB := nge HB hg; have bC := nge HB hg; have bt := nlt ba hg; have bu := ngt ba hg; replace ba := nblk ba hb; replace HB := nbs HB hb; clear hb hbox hg; have dm := bt.out; have dn := bu.out; obtain ⟨dp, dq, dr, ds, dt⟩ := c5e ba; obtain ⟨du, dv, dw, dx, dy⟩ := z5_ ba; obtain ⟨dz, dA, dB, dC, dD⟩ := c5e bd; obtain ⟨dE, dF, dG, dH, dI⟩ := z5_ bd))
      go_ret
      exact ⟨er_, nbe HB⟩
    ·rw [if_neg c6] at H
     have c6b0 : (a0_3 == a1_3) = false := beq_eq_false_iff_ne.mpr c6; have c6b1 : (a0_3 != a1_3) = true := bne_iff_ne.mpr c6; obtain rfl := Option.some.inj H
     go_enter Tryd.func7, Tryd.ntmps7
     go_wp2_with (first | ((with_reducible refine gate_dst (N := 2) rfl ?_); refine bxe 2 #[.int .i64 a0_0, .int .i64 a0_1, .int .i64 a0_2, .int .i64 a0_3, .int .i64 a0_4] 23 ?_; intro bw hg bL hbox hb; have ba := hbox; have bx := nge HB hg; have bz := nge HB hg; replace HB := nbs HB hb; clear hb hbox hg) | ((with_reducible refine gate_dst (N := 3) rfl ?_); refine bxe 3 #[.int .i64 a1_0, .int .i64 a1_1, .int .i64 a1_2, .int .i64 a1_3, .int .i64 a1_4] 23 ?_; intro bA hg dJ hbox hb; have bd := hbox; have bB := nge HB hg; have bC := nge HB hg; have bt := nlt ba hg; have bu := ngt ba hg; replace ba := nblk ba hb; replace HB := nbs HB hb; clear hb hbox hg; have dK := bt.out; have dL := bu.out; obtain ⟨dM, dN, dO, dP, dQ⟩ := c5e ba; obtain ⟨dR, dS, dT, dU, dV⟩ := z5_ ba; obtain ⟨dW, dX, dY, dZ, d0⟩ := c5e bd; obtain ⟨d1, d2, d3, d4, d5⟩ := z5_ bd))
     go_ret
     exact ⟨er_, nbe HB⟩
   ·rw [if_neg c5] at H
    have c5b0 : (a0_2 == a1_2) = false := beq_eq_false_iff_ne.mpr c5; have c5b1 : (a0_2 != a1_2) = true := bne_iff_ne.mpr c5; obtain rfl := Option.some.inj H
    go_enter Tryd.func7, Tryd.ntmps7
    go_wp2_with (first | ((with_reducible refine gate_dst (N := 2) rfl ?_); refine bxe 2 #[.int .i64 a0_0, .int .i64 a0_1, .int .i64 a0_2, .int .i64 a0_3, .int .i64 a0_4] 23 ?_; intro bw hg d6 hbox hb; have ba := hbox; have bx := nge HB hg; have bz := nge HB hg; replace HB := nbs HB hb; clear hb hbox hg) | ((with_reducible refine gate_dst (N := 3) rfl ?_); refine bxe 3 #[.int .i64 a1_0, .int .i64 a1_1, .int .i64 a1_2, .int .i64 a1_3, .int .i64 a1_4] 23 ?_; intro bA hg d7 hbox hb; have bd := hbox; have bB := nge HB hg; have bC := nge HB hg; have bt := nlt ba hg; have bu := ngt ba hg; replace ba := nblk ba hb; replace HB := nbs HB hb; clear hb hbox hg; have d8 := bt.out; have d9 := bu.out; obtain ⟨ea, eb, ec, ed, ee⟩ := c5e ba; obtain ⟨ef, eg, eh, ei, ej⟩ := z5_ ba; obtain ⟨ek, el, em, en, eo⟩ := c5e bd; obtain ⟨ep, er, es, et, eu⟩ := z5_ bd))
    go_ret
    exact ⟨er_, nbe HB⟩
  ·rw [if_neg c4] at H
   have c4b0 : (a0_1 == a1_1) = false := beq_eq_false_iff_ne.mpr c4; have c4b1 : (a0_1 != a1_1) = true := bne_iff_ne.mpr c4; obtain rfl := Option.some.inj H
   go_enter Tryd.func7, Tryd.ntmps7
   go_wp2_with (first | ((with_reducible refine gate_dst (N := 2) rfl ?_); refine bxe 2 #[.int .i64 a0_0, .int .i64 a0_1, .int .i64 a0_2, .int .i64 a0_3, .int .i64 a0_4] 23 ?_; intro bw hg ev hbox hb; have ba := hbox; have bx := nge HB hg; have bz := nge HB hg; replace HB := nbs HB hb; clear hb hbox hg) | ((with_reducible refine gate_dst (N := 3) rfl ?_); refine bxe 3 #[.int .i64 a1_0, .int .i64 a1_1, .int .i64 a1_2, .int .i64 a1_3, .int .i64 a1_4] 23 ?_; intro bA hg bM hbox hb; have bd := hbox; have bB := nge HB hg; have bC := nge HB hg; have bt := nlt ba hg; have bu := ngt ba hg; replace ba := nblk ba hb; replace HB := nbs HB hb; clear hb hbox hg; have ew := bt.out; have ex := bu.out; obtain ⟨ey, ez, eA, eB, eC⟩ := c5e ba; obtain ⟨eD, eE, eF, eG, eH⟩ := z5_ ba; obtain ⟨bN, bO, bP, bQ, bR⟩ := c5e bd; obtain ⟨bS, bT, bU, bV, bW⟩ := z5_ bd))
   go_ret
   exact ⟨er_, nbe HB⟩
 ·rw [if_neg c3] at H
  have c3b0 : (a0_0 == a1_0) = false := beq_eq_false_iff_ne.mpr c3; have c3b1 : (a0_0 != a1_0) = true := bne_iff_ne.mpr c3; obtain rfl := Option.some.inj H
  go_enter Tryd.func7, Tryd.ntmps7
  go_wp2_with (first | ((with_reducible refine gate_dst (N := 2) rfl ?_); refine bxe 2 #[.int .i64 a0_0, .int .i64 a0_1, .int .i64 a0_2, .int .i64 a0_3, .int .i64 a0_4] 23 ?_; intro bw hg eI hbox hb; have ba := hbox; have bx := nge HB hg; have bz := nge HB hg; replace HB := nbs HB hb; clear hb hbox hg) | ((with_reducible refine gate_dst (N := 3) rfl ?_); refine bxe 3 #[.int .i64 a1_0, .int .i64 a1_1, .int .i64 a1_2, .int .i64 a1_3, .int .i64 a1_4] 23 ?_; intro bA hg bX hbox hb; have bd := hbox; have bB := nge HB hg; have bC := nge HB hg; have bt := nlt ba hg; have bu := ngt ba hg; replace ba := nblk ba hb; replace HB := nbs HB hb; clear hb hbox hg; have eJ := bt.out; have eK := bu.out; obtain ⟨eL, eM, eN, eO, eP⟩ := c5e ba; obtain ⟨eQ, eR, eS, eT, eU⟩ := z5_ ba; obtain ⟨eV, eW, eX, eY, eZ⟩ := c5e bd; obtain ⟨e0, e1, e2, e3, e4⟩ := z5_ bd))
  go_ret
  exact ⟨er_, nbe HB⟩

/-! ### laws_FnExactInsRead: function 3 -/
def laws_FnExactInsRead.f (k : Nat) (a0 : ByteArray) : Option (Bool) := if (a0.size : Int) > 1048576 then (some true) else ((spec_InsRead.f k a0).bind fun bn => ((impl_InsRead.f k a0).bind fun bc => ((laws_eqIns.f bc.1 bc.2.1 bc.2.2.1 bc.2.2.2.1 bc.2.2.2.2.1 bn.1 bn.2.1 bn.2.2.1 bn.2.2.2.1 bn.2.2.2.2.1).bind fun bv => (if bv = true then (if (bc.2.2.2.2.2 != bn.2.2.2.2.2) = true then (some false) else (some true)) else (some false)))))
theorem laws_FnExactInsRead.mono : ∀ a0 k, LeO (laws_FnExactInsRead.f k a0) (laws_FnExactInsRead.f (k + 1) a0) := by
 intro a0 k
 unfold laws_FnExactInsRead.f
 repeat' first
   | (with_reducible exact impl_InsRead.mono _ _)
   | (with_reducible exact spec_InsRead.mono _ _)
   | (with_reducible exact LeO.refl _)
   | (with_reducible exact LeO.none _)
   | (with_reducible refine LeO.ite ?_ ?_)
   | (with_reducible refine LeO.bind ?_ (fun _ => ?_))
   | exact impl_InsRead.mono _ _
   | exact spec_InsRead.mono _ _
   | exact LeO.none _
   | refine LeO.ite ?_ ?_
   | refine LeO.bind ?_ (fun _ => ?_)
set_option maxHeartbeats 8000000 in
set_option maxRecDepth 100000 in
theorem laws_FnExactInsRead.calls (k : Nat) (a0 : ByteArray) (r : Bool) (w : World) (h : laws_FnExactInsRead.f k a0 = some r) (hT_ : TabW w) :
  Calls Tryd.prog 3 #[.string a0] w fun e w' => e = .returned (.bool r) ∧ Below w.heap.size w w' := by
 have HT := Aside0.mk hT_; clear hT_
 have hu23 := Tryd.underlying23; have HB := Aside0.mk (Below.refl w.heap.size w); have H : (if (a0.size : Int) > 1048576 then (some true) else ((spec_InsRead.f k a0).bind fun bn => ((impl_InsRead.f k a0).bind fun bc => ((laws_eqIns.f bc.1 bc.2.1 bc.2.2.1 bc.2.2.2.1 bc.2.2.2.2.1 bn.1 bn.2.1 bn.2.2.1 bn.2.2.2.1 bn.2.2.2.2.1).bind fun bv => (if bv = true then (if (bc.2.2.2.2.2 != bn.2.2.2.2.2) = true then (some false) else (some true)) else (some false)))))) = some r := h; clear h
 by_cases c2 : (a0.size : Int) > 1048576
 ·rw [if_pos c2] at H
  have c2b0 : decide (1048576 < (a0.size : Int)) = true := decide_eq_true c2; have c2b1 : decide (1048576 < a0.size) = true := decide_eq_true (by omega); clear c2; obtain rfl := Option.some.inj H
  go_enter Tryd.func3, Tryd.ntmps3
  go_wp2
  go_ret
  exact ⟨er_, nbe HB⟩
 ·rw [if_neg c2] at H
  have c2b0 : decide (1048576 < (a0.size : Int)) = false := decide_eq_false c2; have c2b1 : decide (1048576 < a0.size) = false := decide_eq_false (by omega); clear c2; replace H := Option.bind_eq_some_iff.mp H; obtain ⟨⟨bg, bh, bi, bj, bk, bf⟩, A30, H⟩ := H; replace H : ((impl_InsRead.f k a0).bind fun bc => ((laws_eqIns.f bc.1 bc.2.1 bc.2.2.1 bc.2.2.2.1 bc.2.2.2.2.1 bg bh bi bj bk).bind fun bv => (if bv = true then (if (bc.2.2.2.2.2 != bf) = true then (some false) else (some true)) else (some false)))) = some r := H; have A3 := Aside0.mk A30; clear A30; replace H := Option.bind_eq_some_iff.mp H; obtain ⟨⟨bo, bp, bq, br, bs, bl⟩, A40, H⟩ := H; replace H : ((laws_eqIns.f bo bp bq br bs bg bh bi bj bk).bind fun bv => (if bv = true then (if (bl != bf) = true then (some false) else (some true)) else (some false))) = some r := H; have A4 := Aside0.mk A40; clear A40; replace H := Option.bind_eq_some_iff.mp H; obtain ⟨bv, A50, H⟩ := H; replace H : (if bv = true then (if (bl != bf) = true then (some false) else (some true)) else (some false)) = some r := H; have A5 := Aside0.mk A50; clear A50
  by_cases c6 : bv = true
  ·subst c6
   have H1 : (if (bl != bf) = true then (some false) else (some true)) = some r := by rw [if_pos rfl] at H; exact H
   clear H; have H := H1; clear H1
   by_cases c7 : (bl != bf) = true
   ·rw [if_pos c7] at H
    have c7b0 : (bl != bf) = true := c7; (try (have c7b1 : decide (bl = bf) = false := by simpa using c7)); (try (have c7b2 : (bl == bf) = false := by simpa using c7)); (try (have c7b3 : ¬ (bl = bf) := by simpa using c7)); clear c7; obtain rfl := Option.some.inj H
    go_enter Tryd.func3, Tryd.ntmps3
    go_wp2_with (first | ((with_reducible refine gate_callee (f := 5) rfl ?_); refine goesM (some 12) rfl rfl Tryd.func5 (by kernel_rfl) rfl #[.string a0] rfl ?_; (with_reducible refine (spec_InsRead.calls k a0 bg bh bi bj bk bf _ A3.out).mono ?_); rintro e w8 ⟨rfl, hb⟩; refine ⟨_, rfl, ?_⟩; replace HB := nbs HB hb; (try clear hb)) | ((with_reducible refine gate_dst (N := 3) rfl ?_); refine bxe 3 #[.int .i64 0, .int .i64 0, .int .i64 0, .int .i64 0, .int .i64 0] 23 ?_; intro bD hg w9 hbox hb; have bb := hbox; have bH := nge HB hg; have bI := nge HB hg; replace HB := nbs HB hb; clear hb hbox hg; obtain ⟨e5, e6, e7, e8, e9⟩ := c5e bb; obtain ⟨ga, gb, gc, gd, gf⟩ := z5_ bb) | ((with_reducible refine gate_callee (f := 6) rfl ?_); refine goesM (some 17) rfl rfl Tryd.func6 (by kernel_rfl) rfl #[.string a0] rfl ?_; (with_reducible refine (impl_InsRead.calls k a0 bo bp bq br bs bl _ A4.out ?hT).mono ?_); (case hT => exact nT HT HB); rintro e gg ⟨rfl, hb⟩; refine ⟨_, rfl, ?_⟩; replace bb := Aside0.mk (blk_below (g := bD) (o := .cells #[.int .i64 bg, .int .i64 bh, .int .i64 bi, .int .i64 bj, .int .i64 bk] 23 (0, 0)) (q5 bb) hb); replace HB := nbs HB hb; (try clear hb)) | ((with_reducible refine gate_dst (N := 5) rfl ?_); refine bxe 5 #[.int .i64 0, .int .i64 0, .int .i64 0, .int .i64 0, .int .i64 0] 23 ?_; intro bE hg gh hbox hb; have bm := hbox; have bJ := nge HB hg; have bK := nge HB hg; have bF := nlt bb hg; have bG := ngt bb hg; replace bb := nblk bb hb; replace HB := nbs HB hb; clear hb hbox hg; have gi := bG.out; have gj := bF.out; obtain ⟨gl, gm, gn, gp, gq⟩ := c5e bm; obtain ⟨gr, gs, gt, gu, gv⟩ := z5_ bm; obtain ⟨gw, gx, gy, gz, gA⟩ := c5e bb; obtain ⟨gB, gC, gD, gE, gF⟩ := z5_ bb) | ((with_reducible refine gate_callee (f := 7) rfl ?_); refine goesM (some 22) rfl rfl Tryd.func7 (by kernel_rfl) rfl #[.agg #[.int .i64 bo, .int .i64 bp, .int .i64 bq, .int .i64 br, .int .i64 bs], .agg #[.int .i64 bg, .int .i64 bh, .int .i64 bi, .int .i64 bj, .int .i64 bk]] rfl ?_; (with_reducible refine (laws_eqIns.calls bo bp bq br bs bg bh bi bj bk true _ A5.out).mono ?_); rintro e gG ⟨rfl, hb⟩; refine ⟨_, rfl, ?_⟩; replace bb := nblk bb hb; replace bm := Aside0.mk (blk_below (g := bE) (o := .cells #[.int .i64 bo, .int .i64 bp, .int .i64 bq, .int .i64 br, .int .i64 bs] 23 (0, 0)) (q5 bm) hb); replace HB := nbs HB hb; (try clear hb)))
    go_ret
    exact ⟨er_, nbe HB⟩
   ·rw [if_neg c7] at H
    have c7b0 : (bl != bf) = false := by simpa using c7
    (try (have c7b1 : decide (bl = bf) = true := by simpa using c7)); (try (have c7b2 : (bl == bf) = true := by simpa using c7)); clear c7; obtain rfl := Option.some.inj H
    go_enter Tryd.func3, Tryd.ntmps3
    go_wp2_with (first | ((with_reducible refine gate_callee (f := 5) rfl ?_); refine goesM (some 12) rfl rfl Tryd.func5 (by kernel_rfl) rfl #[.string a0] rfl ?_; (with_reducible refine (spec_InsRead.calls k a0 bg bh bi bj bk bf _ A3.out).mono ?_); rintro e gH ⟨rfl, hb⟩; refine ⟨_, rfl, ?_⟩; replace HB := nbs HB hb; (try clear hb)) | ((with_reducible refine gate_dst (N := 3) rfl ?_); refine bxe 3 #[.int .i64 0, .int .i64 0, .int .i64 0, .int .i64 0, .int .i64 0] 23 ?_; intro bD hg bL hbox hb; have bb := hbox; have bH := nge HB hg; have bI := nge HB hg; replace HB := nbs HB hb; clear hb hbox hg; obtain ⟨gI, gJ, gK, gL, gM⟩ := c5e bb; obtain ⟨gN, gO, gP, gQ, gR⟩ := z5_ bb) | ((with_reducible refine gate_callee (f := 6) rfl ?_); refine goesM (some 17) rfl rfl Tryd.func6 (by kernel_rfl) rfl #[.string a0] rfl ?_; (with_reducible refine (impl_InsRead.calls k a0 bo bp bq br bs bl _ A4.out ?hT).mono ?_); (case hT => exact nT HT HB); rintro e gS ⟨rfl, hb⟩; refine ⟨_, rfl, ?_⟩; replace bb := Aside0.mk (blk_below (g := bD) (o := .cells #[.int .i64 bg, .int .i64 bh, .int .i64 bi, .int .i64 bj, .int .i64 bk] 23 (0, 0)) (q5 bb) hb); replace HB := nbs HB hb; (try clear hb)) | ((with_reducible refine gate_dst (N := 5) rfl ?_); refine bxe 5 #[.int .i64 0, .int .i64 0, .int .i64 0, .int .i64 0, .int .i64 0] 23 ?_; intro bE hg gT hbox hb; have bm := hbox; have bJ := nge HB hg; have bK := nge HB hg; have bF := nlt bb hg; have bG := ngt bb hg; replace bb := nblk bb hb; replace HB := nbs HB hb; clear hb hbox hg; have gU := bG.out; have gV := bF.out; obtain ⟨gW, gX, gY, gZ, g0⟩ := c5e bm; obtain ⟨g1, g2, g3, g4, g5⟩ := z5_ bm; obtain ⟨g6, g7, g8, g9, ha⟩ := c5e bb; obtain ⟨hc, hf, hh, hj, hl⟩ := z5_ bb) | ((with_reducible refine gate_callee (f := 7) rfl ?_); refine goesM (some 22) rfl rfl Tryd.func7 (by kernel_rfl) rfl #[.agg #[.int .i64 bo, .int .i64 bp, .int .i64 bq, .int .i64 br, .int .i64 bs], .agg #[.int .i64 bg, .int .i64 bh, .int .i64 bi, .int .i64 bj, .int .i64 bk]] rfl ?_; (with_reducible refine (laws_eqIns.calls bo bp bq br bs bg bh bi bj bk true _ A5.out).mono ?_); rintro e hm ⟨rfl, hb⟩; refine ⟨_, rfl, ?_⟩; replace bb := nblk bb hb; replace bm := Aside0.mk (blk_below (g := bE) (o := .cells #[.int .i64 bo, .int .i64 bp, .int .i64 bq, .int .i64 br, .int .i64 bs] 23 (0, 0)) (q5 bm) hb); replace HB := nbs HB hb; (try clear hb)))
    go_ret
    exact ⟨er_, nbe HB⟩
  ·replace c6 := Bool.eq_false_iff.mpr c6
   subst c6; have H1 : (some false) = some r := by rw [if_neg (show ¬ (false = true) by decide)] at H; exact H
   clear H; have H := H1; clear H1; obtain rfl := Option.some.inj H
   go_enter Tryd.func3, Tryd.ntmps3
   go_wp2_with (first | ((with_reducible refine gate_callee (f := 5) rfl ?_); refine goesM (some 12) rfl rfl Tryd.func5 (by kernel_rfl) rfl #[.string a0] rfl ?_; (with_reducible refine (spec_InsRead.calls k a0 bg bh bi bj bk bf _ A3.out).mono ?_); rintro e hn ⟨rfl, hb⟩; refine ⟨_, rfl, ?_⟩; replace HB := nbs HB hb; (try clear hb)) | ((with_reducible refine gate_dst (N := 3) rfl ?_); refine bxe 3 #[.int .i64 0, .int .i64 0, .int .i64 0, .int .i64 0, .int .i64 0] 23 ?_; intro bD hg ho hbox hb; have bb := hbox; have bH := nge HB hg; have bI := nge HB hg; replace HB := nbs HB hb; clear hb hbox hg; obtain ⟨hp, hq, hr, hs, ht⟩ := c5e bb; obtain ⟨hu, hv, hw, hx, hy⟩ := z5_ bb) | ((with_reducible refine gate_callee (f := 6) rfl ?_); refine goesM (some 17) rfl rfl Tryd.func6 (by kernel_rfl) rfl #[.string a0] rfl ?_; (with_reducible refine (impl_InsRead.calls k a0 bo bp bq br bs bl _ A4.out ?hT).mono ?_); (case hT => exact nT HT HB); rintro e bM ⟨rfl, hb⟩; refine ⟨_, rfl, ?_⟩; replace bb := Aside0.mk (blk_below (g := bD) (o := .cells #[.int .i64 bg, .int .i64 bh, .int .i64 bi, .int .i64 bj, .int .i64 bk] 23 (0, 0)) (q5 bb) hb); replace HB := nbs HB hb; (try clear hb)) | ((with_reducible refine gate_dst (N := 5) rfl ?_); refine bxe 5 #[.int .i64 0, .int .i64 0, .int .i64 0, .int .i64 0, .int .i64 0] 23 ?_; intro bE hg hz hbox hb; have bm := hbox; have bJ := nge HB hg; have bK := nge HB hg; have bF := nlt bb hg; have bG := ngt bb hg; replace bb := nblk bb hb; replace HB := nbs HB hb; clear hb hbox hg; have hA := bG.out; have hB := bF.out; obtain ⟨bN, bO, bP, bQ, bR⟩ := c5e bm; obtain ⟨bS, bT, bU, bV, bW⟩ := z5_ bm; obtain ⟨hC, hD, hE, hF, hG⟩ := c5e bb; obtain ⟨hH, hI, hJ, hK, hL⟩ := z5_ bb) | ((with_reducible refine gate_callee (f := 7) rfl ?_); refine goesM (some 22) rfl rfl Tryd.func7 (by kernel_rfl) rfl #[.agg #[.int .i64 bo, .int .i64 bp, .int .i64 bq, .int .i64 br, .int .i64 bs], .agg #[.int .i64 bg, .int .i64 bh, .int .i64 bi, .int .i64 bj, .int .i64 bk]] rfl ?_; (with_reducible refine (laws_eqIns.calls bo bp bq br bs bg bh bi bj bk false _ A5.out).mono ?_); rintro e bX ⟨rfl, hb⟩; refine ⟨_, rfl, ?_⟩; replace bb := nblk bb hb; replace bm := Aside0.mk (blk_below (g := bE) (o := .cells #[.int .i64 bo, .int .i64 bp, .int .i64 bq, .int .i64 br, .int .i64 bs] 23 (0, 0)) (q5 bm) hb); replace HB := nbs HB hb; (try clear hb)))
   go_ret
   exact ⟨er_, nbe HB⟩


end Go.Proofs.YtdbffjaolbkedaaDoor.PFnExactInsRead
