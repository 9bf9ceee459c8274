-- Written by a program of this session (wip/patch.py turns a copy of the kit's print): the functions that the law reaches, and their walks.
import Derived.Test.YtpcladboobfkhaaPFnWorkx0
import Derived.Test.YtpcladboobfkhaaPFnWorkx10
import Derived.Test.YtpcladboobfkhaaCFnWork
import Derived.Test.YtpcladboobfkhaaEFnWork
namespace Go.Proofs.Ytpcladboobfkhaa.PFnWork
open Go.RowKit Go.Proofs.YtpcladboobfkhaaW.PrintWords Go.Proofs.YtpcladboobfkhaaW.PrintLast Go.Proofs.YtpcladboobfkhaaW.PrintMore Go.Proofs.YtpcladboobfkhaaW.Mine
attribute [local go_sem] dsc dhs dha ddr ddrN
attribute [local go_sem] max2_int min2_int max_two min_two max_three min_three max_four min_four   -- for this text's walks alone
set_option linter.unusedVariables false
set_option linter.unusedSimpArgs false

/-! ### impl_Point: function 19 -/
def impl_Point.f (k : Nat) (a0_0 : Int) (a0_1 : Bool) (a0_2 : Int) (a0_3 : Int) (a0_4 : Int) (a0_5 : Int) (a1 : Int) : Option (Int × Bool × Int × Int × Int × Int) := (impl_Plain.f a1).bind fun bg => ((impl_open.f k a0_0 a0_1 a0_2 a0_3 a0_4 a0_5).bind fun bo => (if bo = true then (some (bg.1, true, a0_2, a0_3, a0_4, a0_5)) else (some (bg.1, bg.2.1, bg.2.2.1, bg.2.2.2.1, bg.2.2.2.2.1, bg.2.2.2.2.2))))
theorem impl_Point.mono : ∀ a0 a1 a2 a3 a4 a5 a6 k, LeO (impl_Point.f k a0 a1 a2 a3 a4 a5 a6) (impl_Point.f (k + 1) a0 a1 a2 a3 a4 a5 a6) := by
 intro a0 a1 a2 a3 a4 a5 a6 k
 unfold impl_Point.f
 repeat' first
   | (with_reducible exact impl_open.mono _ _ _ _ _ _ _)
   | (with_reducible exact LeO.refl _)
   | (with_reducible exact LeO.none _)
   | (with_reducible refine LeO.ite ?_ ?_)
   | (with_reducible refine LeO.bind ?_ (fun _ => ?_))
   | exact impl_open.mono _ _ _ _ _ _ _
   | exact LeO.none _
   | refine LeO.ite ?_ ?_
   | refine LeO.bind ?_ (fun _ => ?_)
set_option maxHeartbeats 8000000 in
set_option maxRecDepth 100000 in
theorem impl_Point.calls (k : Nat) (a0_0 : Int) (a0_1 : Bool) (a0_2 : Int) (a0_3 : Int) (a0_4 : Int) (a0_5 : Int) (a1 : Int) (r1 : Int) (r2 : Bool) (r3 : Int) (r4 : Int) (r5 : Int) (r6 : Int) (w : World) (h : impl_Point.f k a0_0 a0_1 a0_2 a0_3 a0_4 a0_5 a1 = some (r1, r2, r3, r4, r5, r6)) :
  Calls Try.prog 19 #[.agg #[.int .i64 a0_0, .bool a0_1, .int .i64 a0_2, .int .i64 a0_3, .int .i64 a0_4, .int .i64 a0_5], .int .i64 a1] w fun e w' => e = .returned (.agg #[.int .i64 r1, .bool r2, .int .i64 r3, .int .i64 r4, .int .i64 r5, .int .i64 r6]) ∧ Below w.heap.size w w' := by
 have hu29 := Try.underlying29; have hu27 := Try.underlying27; have HB := Aside0.mk (Below.refl w.heap.size w); have H := h; clear h; unfold impl_Point.f at H; (try dsimp only at H); replace H := Option.bind_eq_some_iff.mp H; obtain ⟨⟨bh, bi, bj, bk, bl, bm⟩, A30, H⟩ := H; (try dsimp only at H); have A3 := Aside0.mk A30; clear A30; replace H := Option.bind_eq_some_iff.mp H; obtain ⟨bo, A40, H⟩ := H; (try dsimp only at H); have A4 := Aside0.mk A40; clear A40
 by_cases c5 : bo = true
 ·subst c5
  rw [if_pos rfl] at H; (try dsimp only at H); simp only [Option.some.injEq, Prod.mk.injEq] at H; obtain ⟨rfl, rfl, rfl, rfl, rfl, rfl⟩ := H
  go_enter Try.func19, Try.ntmps19
  try go_wp2_with (first | ((with_reducible refine gate_dst (N := 2) rfl ?_); refine bxe 2 #[.int .i64 a0_0, .bool a0_1, .int .i64 a0_2, .int .i64 a0_3, .int .i64 a0_4, .int .i64 a0_5] 29 ?_; intro bq hg w6 hbox hb; have ba := hbox; have bG := nge HB hg; have bH := nge HB hg; replace HB := nbs HB hb; clear hb hbox hg) | ((with_reducible refine gate_dst (N := 4) rfl ?_); refine bxe 4 #[.int .i64 0, .bool false, .int .i64 0, .int .i64 0, .int .i64 0, .int .i64 0] 29 ?_; intro bz hg w7 hbox hb; have bb := hbox; have bI := nge HB hg; have bJ := nge HB hg; have bA := nlt ba hg; have bB := ngt ba hg; replace ba := nblk ba hb; replace HB := nbs HB hb; clear hb hbox hg) | ((with_reducible refine gate_callee (f := 45) rfl ?_); refine goesM (some 7) rfl rfl Try.func45 (by kernel_rfl) rfl #[.int .i64 a1] rfl ?_; (with_reducible refine (impl_Plain.calls a1 bh bi bj bk bl bm _ A3.out).mono ?_); rintro e w8 ⟨rfl, hb⟩; refine ⟨_, rfl, ?_⟩; replace ba := nblk ba hb; replace bb := nblk bb hb; replace HB := nbs HB hb; (try clear hb)) | ((with_reducible refine gate_dst (N := 5) rfl ?_); refine bxe 5 #[.int .i64 0, .bool false, .int .i64 0, .int .i64 0, .int .i64 0, .int .i64 0] 29 ?_; intro bp hg w9 hbox hb; have bc := hbox; have bK := nge HB hg; have bL := nge HB hg; have bf := nlt ba hg; have bs := ngt ba hg; have br := nlt bb hg; have bt := ngt bb hg; replace ba := nblk ba hb; replace bb := nblk bb hb; replace HB := nbs HB hb; clear hb hbox hg; have di := bs.out; have dj := bf.out; have dk := bt.out; have dl := br.out; obtain ⟨dm, dn, dp, dq, dr, dt⟩ := c6e bc; obtain ⟨du, dv, dw, dx, dy, dz⟩ := z6_ bc; have dA := bA.out; have dB := bB.out; obtain ⟨dC, dD, dE, dF, dG, dH⟩ := c6e ba; obtain ⟨dI, dJ, dK, dL, dM, dN⟩ := z6_ ba) | ((with_reducible refine gate_callee (f := 46) rfl ?_); refine goesM (some 9) rfl rfl Try.func46 (by kernel_rfl) rfl #[.agg #[.int .i64 a0_0, .bool a0_1, .int .i64 a0_2, .int .i64 a0_3, .int .i64 a0_4, .int .i64 a0_5]] rfl ?_; (with_reducible refine (impl_open.calls k a0_0 a0_1 a0_2 a0_3 a0_4 a0_5 true _ A4.out).mono ?_); rintro e bM ⟨rfl, hb⟩; refine ⟨_, rfl, ?_⟩; replace ba := nblk ba hb; replace bb := nblk bb hb; replace bc := Aside0.mk (blk_below (g := bp) (o := .cells #[.int .i64 bh, .bool bi, .int .i64 bj, .int .i64 bk, .int .i64 bl, .int .i64 bm] 29 (0, 0)) (q6 bc) hb); replace HB := nbs HB hb; (try clear hb)))
  replace ba := Aside0.mk (blk_drew ba.out); replace bb := Aside0.mk (blk_drew bb.out); replace bc := Aside0.mk (blk_drew bc.out); replace HB := Aside0.mk (below_drew1 HB.out); refine start_ (n := 6) (S := fun w' => w'.cell? ⟨bq, 0, none⟩ = some (.int .i64 a0_0) ∧ w'.cell? ⟨bq, 1, none⟩ = some (.bool a0_1) ∧ w'.cell? ⟨bq, 2, none⟩ = some (.int .i64 a0_2) ∧ w'.cell? ⟨bq, 3, none⟩ = some (.int .i64 a0_3) ∧ w'.cell? ⟨bq, 4, none⟩ = some (.int .i64 a0_4) ∧ w'.cell? ⟨bq, 5, none⟩ = some (.int .i64 a0_5)) (ds := []) #[false, false, false, false, false, false] (by kernel_rfl) rfl rfl (c6e ba) (fun hHeld => ?_); generalize bM.drew = bu at ba bb bc HB hHeld ⊢; refine rPk 0 10 #[true, false, false, false, false, false] ?_; refine rPk 2 12 #[true, false, true, false, false, false] ?_; refine rTk hHeld 1 11 #[true, true, true, false, false, false] ?_; refine one_ (i := 3) (N := none) #[true, true, true, true, false, false] rfl rfl (by kernel_rfl) (by decide) (fun K hK => ?_); have hs17 : bu.cell? ⟨bp, 1, none⟩ = some (.bool bi) := (blk_cell bc.out 1).trans rfl; have hfs17 := blk_frozen bc.out 1; have hns17_0 := bf.out; have hns17_1 := br.out; have hms17_0 := bs.out; have hms17_1 := bt.out; refine skip_ (w1 := ?_) (by rfl) rfl ?_ ?_; rotate_left
  ·go_simp
   rfl
  refine hK.out _ _ ⟨(g1 bf.out hHeld.1), (g1 bf.out hHeld.2.1), (g1 bf.out hHeld.2.2.1), (g1 bf.out hHeld.2.2.2.1), (g1 bf.out hHeld.2.2.2.2.1), (g1 bf.out hHeld.2.2.2.2.2)⟩ (fun hHeld => ?_); clear hK K; refine rPk 4 13 #[true, true, true, true, true, false] ?_; refine one_ (i := 5) (N := none) #[true, true, true, true, true, true] rfl rfl (by kernel_rfl) (by decide) (fun K hK => ?_); have hs18 : bu.cell? ⟨bp, 2, none⟩ = some (.int .i64 bj) := (blk_cell bc.out 2).trans rfl; have hfs18 := blk_frozen bc.out 2; have hns18_0 := bf.out; have hns18_1 := br.out; have hms18_0 := bs.out; have hms18_1 := bt.out; have hs19 : bu.cell? ⟨bp, 3, none⟩ = some (.int .i64 bk) := (blk_cell bc.out 3).trans rfl; have hfs19 := blk_frozen bc.out 3; have hs20 : bu.cell? ⟨bp, 4, none⟩ = some (.int .i64 bl) := (blk_cell bc.out 4).trans rfl; have hfs20 := blk_frozen bc.out 4; have hs21 : bu.cell? ⟨bp, 5, none⟩ = some (.int .i64 bm) := (blk_cell bc.out 5).trans rfl; have hfs21 := blk_frozen bc.out 5; refine skip_ (w1 := ?_) (by rfl) rfl ?_ ?_; rotate_left
  ·go_simp
   rfl
  refine hK.out _ _ ⟨(g4 bf.out hHeld.1), (g4 bf.out hHeld.2.1), (g4 bf.out hHeld.2.2.1), (g4 bf.out hHeld.2.2.2.1), (g4 bf.out hHeld.2.2.2.2.1), (g4 bf.out hHeld.2.2.2.2.2)⟩ (fun hHeld => ?_); clear hK K; refine done_ (by kernel_rfl) ?_; obtain ⟨dO, dP, dQ, dR, dS, dT⟩ := c6e bc; obtain ⟨dU, dV, dW, dX, dY, dZ⟩ := z6_ bc; obtain ⟨d0, d1, d2, d3, d4, d5⟩ := c6e bb; obtain ⟨d6, d7, d8, d9, ea, eb⟩ := z6_ bb
  try go_wp2
  refine bodyPost_ret (results_cell_row rfl _ _ bz 29 #[.int .i64 bh, .bool true, .int .i64 a0_2, .int .i64 a0_3, .int .i64 a0_4, .int .i64 a0_5] (0, 0) _ rfl (p6 bb (k5_ br.out (nb bb))) Try.underlying29 rfl (by kernel_rfl)) rfl ?_; exact ⟨er_, nbe HB⟩
 ·replace c5 := Bool.eq_false_iff.mpr c5
  subst c5; rw [if_neg (show ¬ (false = true) by decide)] at H; (try dsimp only at H); simp only [Option.some.injEq, Prod.mk.injEq] at H; obtain ⟨rfl, rfl, rfl, rfl, rfl, rfl⟩ := H
  go_enter Try.func19, Try.ntmps19
  go_wp2_with (first | (go_at_call 45; (with_reducible refine dmn (impl_Plain.calls (h := A3.out) (w := _)) ?_); intro x1 hb1 hc; have hw := dsz (n := w.heap.size + 1 + 1) hb1; have z := dl2 hw) | (go_at_call 46; (with_reducible refine dmn (impl_open.calls (h := A4.out) (w := _)) ?_); intro x2 hb2 hc; have hw := dsz (n := w.heap.size + 1 + 1) hb2; have z := dl2 hw; have hx1 := dsz (n := x1.heap.size + 1) hb2; have z := dl1 hx1))
  refine bodyPost_ret (drc rfl _ _ rfl (by go_simp; rfl)) rfl ?_; exact ⟨rfl, dfi⟩
/-! ### impl_Try: function 20 -/
def impl_Try.j0 : Nat → Int → Int → Bool → Int → Bool → Int → Int → Int → Int → Option (Int)
 | 0, _, _, _, _, _, _, _, _, _ => none
 | k + 1, x1, x2, x7, ga, gb, bN, bO, bP, bQ => if x7 = true then (some 1) else (if bQ = 0 then (if (Go.bits .andNot .i64 x2 bP) = 0 then (if x1 < bN then (some 4) else (if x1 ≥ bO then (some 4) else (some 0))) else (some 3)) else (some 2))
def impl_Try.f (k : Nat) (a0_0 : Int) (a0_1 : Bool) (a0_2 : Int) (a0_3 : Int) (a0_4 : Int) (a0_5 : Int) (a1 : Int) (a2 : Int) : Option (Int) := if a0_1 = true then ((impl_WordOk.f k a0_0 a0_1 a0_2 a0_3 a0_4 a0_5).bind fun bn => (impl_Try.j0 k a1 a2 (!bn) a0_0 a0_1 a0_2 a0_3 a0_4 a0_5)) else (impl_Try.j0 k a1 a2 true a0_0 a0_1 a0_2 a0_3 a0_4 a0_5)
theorem impl_Try.mono_l : ∀ k, (∀ y0 y1 y2 y3 y4 y5 y6 y7 y8, LeO (impl_Try.j0 k y0 y1 y2 y3 y4 y5 y6 y7 y8) (impl_Try.j0 (k + 1) y0 y1 y2 y3 y4 y5 y6 y7 y8))
 | 0 => fun _ _ _ _ _ _ _ _ _ r h => by simp [impl_Try.j0] at h
 | k + 1 => by
  have ih0 := impl_Try.mono_l k
  ·intro y0 y1 y2 y3 y4 y5 y6 y7 y8
   unfold impl_Try.j0
   repeat' first
   | (with_reducible exact ih0 _ _ _ _ _ _ _ _ _)
   | (with_reducible exact impl_WordOk.mono _ _ _ _ _ _ _)
   | (with_reducible exact LeO.refl _)
   | (with_reducible exact LeO.none _)
   | (with_reducible refine LeO.ite ?_ ?_)
   | (with_reducible refine LeO.bind ?_ (fun _ => ?_))
   | exact ih0 _ _ _ _ _ _ _ _ _
   | exact impl_WordOk.mono _ _ _ _ _ _ _
   | exact LeO.none _
   | refine LeO.ite ?_ ?_
   | refine LeO.bind ?_ (fun _ => ?_)
theorem impl_Try.mono : ∀ a0 a1 a2 a3 a4 a5 a6 a7 k, LeO (impl_Try.f k a0 a1 a2 a3 a4 a5 a6 a7) (impl_Try.f (k + 1) a0 a1 a2 a3 a4 a5 a6 a7) := by
 intro a0 a1 a2 a3 a4 a5 a6 a7 k; have ih0 := impl_Try.mono_l k
 unfold impl_Try.f
 repeat' first
   | (with_reducible exact ih0 _ _ _ _ _ _ _ _ _)
   | (with_reducible exact impl_WordOk.mono _ _ _ _ _ _ _)
   | (with_reducible exact LeO.refl _)
   | (with_reducible exact LeO.none _)
   | (with_reducible refine LeO.ite ?_ ?_)
   | (with_reducible refine LeO.bind ?_ (fun _ => ?_))
   | exact ih0 _ _ _ _ _ _ _ _ _
   | exact impl_WordOk.mono _ _ _ _ _ _ _
   | exact LeO.none _
   | refine LeO.ite ?_ ?_
   | refine LeO.bind ?_ (fun _ => ?_)
set_option maxHeartbeats 8000000 in
set_option maxRecDepth 100000 in
theorem impl_Try.calls (k : Nat) (a0_0 : Int) (a0_1 : Bool) (a0_2 : Int) (a0_3 : Int) (a0_4 : Int) (a0_5 : Int) (a1 : Int) (a2 : Int) (r : Int) (w : World) (h : impl_Try.f k a0_0 a0_1 a0_2 a0_3 a0_4 a0_5 a1 a2 = some r) :
  Calls Try.prog 20 #[.agg #[.int .i64 a0_0, .bool a0_1, .int .i64 a0_2, .int .i64 a0_3, .int .i64 a0_4, .int .i64 a0_5], .int .i64 a1, .int .i64 a2] w fun e w' => e = .returned (.int .i64 r) ∧ Below w.heap.size w w' := by
 have hu29 := Try.underlying29; have HB := Aside0.mk (Below.refl w.heap.size w); have H := h; clear h; unfold impl_Try.f at H; (try dsimp only at H); have bC := Aside0.mk H; clear H
 go_enter Try.func20, Try.ntmps20
 go_upto_region 1 with (first | ((with_reducible refine gate_dst (N := 3) rfl ?_); refine bxe 3 #[.int .i64 a0_0, .bool a0_1, .int .i64 a0_2, .int .i64 a0_3, .int .i64 a0_4, .int .i64 a0_5] 29 ?_; intro bR hg w5 hbox hb; have bd := hbox; have gc := nge HB hg; have gd := nge HB hg; replace HB := nbs HB hb; clear hb hbox hg))
 (try simp only [Act.put, List.setIfInBounds_toArray, List.set_cons_zero, List.set_cons_succ])
 go_cut [7] (fun v7 wc => ∃ (kq : Nat) (bv : Bool), v7 = .bool bv ∧ Aside0 (impl_Try.j0 kq a1 a2 bv a0_0 a0_1 a0_2 a0_3 a0_4 a0_5 = some r) ∧ Aside0 (kq ≤ k) ∧ Aside0 (wc.heap[bR]? = some (.cells #[.int .i64 a0_0, .bool a0_1, .int .i64 a0_2, .int .i64 a0_3, .int .i64 a0_4, .int .i64 a0_5] 29 (0, 0))) ∧ Aside0 (Below w.heap.size w wc))
 case first =>
  have H := bC.out; clear bC
  by_cases c6 : a0_1 = true
  ·subst c6
   rw [if_pos rfl] at H; (try dsimp only at H); replace H := Option.bind_eq_some_iff.mp H; obtain ⟨bn, A70, H⟩ := H; (try dsimp only at H); have A7 := Aside0.mk A70; clear A70; have H' := Aside0.mk H; clear H; obtain ⟨bS, bT, bU, bV, bW, bX⟩ := c6e bd; obtain ⟨bY, bZ, b0, b1, b2, b3⟩ := z6_ bd
   go_wp2_with (first | (go_at_call 47; (with_reducible refine (impl_WordOk.calls k a0_0 true a0_2 a0_3 a0_4 a0_5 bn _ A7.out).mono ?_); rintro e w9 ⟨rfl, hb⟩; replace bd := nblk bd hb; replace HB := nbs HB hb; (try clear hb)))
   go_meet
   case rel => exact ⟨_, (!bn), (by first | rfl | (simp; done) | (simp [*]; done)), H', ⟨by first | omega | exact Nat.le_refl _⟩, ⟨nb bd⟩, ⟨nbe HB⟩⟩
  ·replace c6 := Bool.eq_false_iff.mpr c6
   subst c6; rw [if_neg (show ¬ (false = true) by decide)] at H; (try dsimp only at H); have H' := Aside0.mk H; clear H; obtain ⟨b4, b5, b6, b7, b8, b9⟩ := c6e bd; obtain ⟨da, db, dc, dd, de, df⟩ := z6_ bd; go_wp2
   go_meet
   case rel => exact ⟨_, (true), (by first | rfl | (simp; done) | (simp [*]; done)), H', ⟨by first | omega | exact Nat.le_refl _⟩, ⟨nb bd⟩, ⟨nbe HB⟩⟩
 case rest =>
  clear bC; try clear c2
  try clear p2
  try clear c6
  try clear b4
  try clear b5
  try clear b6
  try clear b7
  try clear b8
  try clear b9
  try clear bS
  try clear bT
  try clear bU
  try clear bV
  try clear bW
  try clear bX
  try clear da
  try clear db
  try clear dc
  try clear dd
  try clear de
  try clear df
  try clear bY
  try clear bZ
  try clear b0
  try clear b1
  try clear b2
  try clear b3
  obtain ⟨kq, bv, rfl, HA, gf, bd, HB⟩ := hcut
  cases kq with
  | zero => exact absurd HA.out (by simp [impl_Try.j0])
  | succ kj3 =>
   have H := HA.out; clear HA; simp only [impl_Try.j0] at H
   by_cases c11 : bv = true
   ·subst c11
    rw [if_pos rfl] at H; (try dsimp only at H); obtain rfl := Option.some.inj H; go_wp2
    go_ret
    exact ⟨er_, nbe HB⟩
   ·replace c11 := Bool.eq_false_iff.mpr c11
    subst c11; rw [if_neg (show ¬ (false = true) by decide)] at H; (try dsimp only at H)
    by_cases c12 : a0_5 = 0
    ·rw [if_pos c12] at H
     have c12b0 : (a0_5 == 0) = true := beq_iff_eq.mpr c12; have c12b1 : (a0_5 != 0) = false := bne_eq_false_iff_eq.mpr c12; clear c12
     by_cases c13 : (Go.bits .andNot .i64 a2 a0_4) = 0
     ·rw [if_pos c13] at H
      have c13b0 : ((Go.bits .andNot .i64 a2 a0_4) == 0) = true := beq_iff_eq.mpr c13; have c13b1 : ((Go.bits .andNot .i64 a2 a0_4) != 0) = false := bne_eq_false_iff_eq.mpr c13; clear c13
      by_cases c14 : a1 < a0_2
      ·rw [if_pos c14] at H
       have c14b0 : decide (a1 < a0_2) = true := decide_eq_true c14; clear c14; obtain rfl := Option.some.inj H; obtain ⟨gg, gh, gi, gj, gl, gm⟩ := c6e bd; obtain ⟨gn, gp, gq, gr, gs, gt⟩ := z6_ bd; go_wp2
       go_ret
       exact ⟨er_, nbe HB⟩
      ·rw [if_neg c14] at H
       have c14b0 : decide (a1 < a0_2) = false := decide_eq_false c14; clear c14
       by_cases c16 : a1 ≥ a0_3
       ·rw [if_pos c16] at H
        have c16b0 : decide (a0_3 ≤ a1) = true := decide_eq_true c16; clear c16; obtain rfl := Option.some.inj H; obtain ⟨gu, gv, gw, gx, gy, gz⟩ := c6e bd; obtain ⟨gA, gB, gC, gD, gE, gF⟩ := z6_ bd; go_wp2
        go_ret
        exact ⟨er_, nbe HB⟩
       ·rw [if_neg c16] at H
        have c16b0 : decide (a0_3 ≤ a1) = false := decide_eq_false c16; clear c16; obtain rfl := Option.some.inj H; obtain ⟨gG, gH, gI, gJ, gK, gL⟩ := c6e bd; obtain ⟨gM, gN, gO, gP, gQ, gR⟩ := z6_ bd; go_wp2
        go_ret
        exact ⟨er_, nbe HB⟩
     ·rw [if_neg c13] at H
      have c13b0 : ((Go.bits .andNot .i64 a2 a0_4) == 0) = false := beq_eq_false_iff_ne.mpr c13; have c13b1 : ((Go.bits .andNot .i64 a2 a0_4) != 0) = true := bne_iff_ne.mpr c13; obtain rfl := Option.some.inj H; obtain ⟨gS, gT, gU, gV, gW, gX⟩ := c6e bd; obtain ⟨gY, gZ, g0, g2, g3, g5⟩ := z6_ bd; go_wp2
      go_ret
      exact ⟨er_, nbe HB⟩
    ·rw [if_neg c12] at H
     have c12b0 : (a0_5 == 0) = false := beq_eq_false_iff_ne.mpr c12; have c12b1 : (a0_5 != 0) = true := bne_iff_ne.mpr c12; obtain rfl := Option.some.inj H; obtain ⟨g6, g7, g8, g9, ha, hc⟩ := c6e bd; obtain ⟨hd, hf, hh, hj, hl, hm⟩ := z6_ bd; go_wp2
     go_ret
     exact ⟨er_, nbe HB⟩
/-! ### impl_formOf: function 48 -/
mutual
def impl_formOf.j0 : Nat → Int → Bool → Option (ByteArray × Bool)
 | 0, _, _ => none
 | k + 1, x4, x7 => if x7 = true then (some ((⟨#[82, 65, 66]⟩ : ByteArray), true)) else (if x4 = 3 then (impl_formOf.j1 k x4 (x4 == 3)) else (if x4 = 9 then (impl_formOf.j1 k x4 (x4 == 9)) else (impl_formOf.j1 k x4 (x4 == 12))))
def impl_formOf.j1 : Nat → Int → Bool → Option (ByteArray × Bool)
 | 0, _, _ => none
 | k + 1, x4, dg => if dg = true then (some ((⟨#[82, 65]⟩ : ByteArray), true)) else (if x4 = 6 then (some ((⟨#[82, 65, 66, 78]⟩ : ByteArray), true)) else (if x4 = 10 then (some ((⟨#[82, 65, 78]⟩ : ByteArray), true)) else (if x4 = 11 then (some ((⟨#[65, 66, 78]⟩ : ByteArray), true)) else (if x4 = 13 then (some ((⟨#[65, 78]⟩ : ByteArray), true)) else (if x4 = 14 then (some ((⟨#[65]⟩ : ByteArray), true)) else (if x4 = 15 then (some ((⟨#[]⟩ : ByteArray), true)) else (some ((⟨#[]⟩ : ByteArray), false))))))))
end
def impl_formOf.f (k : Nat) (a0 : Int) : Option (ByteArray × Bool) := if a0 = 1 then (some ((⟨#[82, 78]⟩ : ByteArray), true)) else (if a0 = 2 then (impl_formOf.j0 k a0 (a0 == 2)) else (if a0 = 4 then (impl_formOf.j0 k a0 (a0 == 4)) else (if a0 = 5 then (impl_formOf.j0 k a0 (a0 == 5)) else (if a0 = 7 then (impl_formOf.j0 k a0 (a0 == 7)) else (impl_formOf.j0 k a0 (a0 == 8))))))
theorem impl_formOf.mono_l : ∀ k, (∀ y0 y1, LeO (impl_formOf.j0 k y0 y1) (impl_formOf.j0 (k + 1) y0 y1)) ∧ (∀ y0 y1, LeO (impl_formOf.j1 k y0 y1) (impl_formOf.j1 (k + 1) y0 y1))
 | 0 => ⟨fun _ _ r h => by simp [impl_formOf.j0] at h, fun _ _ r h => by simp [impl_formOf.j1] at h⟩
 | k + 1 => by
  obtain ⟨ih0, ih1⟩ := impl_formOf.mono_l k; refine ⟨?_, ?_⟩
  ·intro y0 y1
   unfold impl_formOf.j0
   repeat' first
   | (with_reducible exact ih0 _ _)
   | (with_reducible exact ih1 _ _)
   | (with_reducible exact LeO.refl _)
   | (with_reducible exact LeO.none _)
   | (with_reducible refine LeO.ite ?_ ?_)
   | (with_reducible refine LeO.bind ?_ (fun _ => ?_))
   | exact ih0 _ _
   | exact ih1 _ _
   | exact LeO.none _
   | refine LeO.ite ?_ ?_
   | refine LeO.bind ?_ (fun _ => ?_)
  ·intro y0 y1
   unfold impl_formOf.j1
   repeat' first
   | (with_reducible exact ih0 _ _)
   | (with_reducible exact ih1 _ _)
   | (with_reducible exact LeO.refl _)
   | (with_reducible exact LeO.none _)
   | (with_reducible refine LeO.ite ?_ ?_)
   | (with_reducible refine LeO.bind ?_ (fun _ => ?_))
   | exact ih0 _ _
   | exact ih1 _ _
   | exact LeO.none _
   | refine LeO.ite ?_ ?_
   | refine LeO.bind ?_ (fun _ => ?_)
theorem impl_formOf.mono : ∀ a0 k, LeO (impl_formOf.f k a0) (impl_formOf.f (k + 1) a0) := by
 intro a0 k; obtain ⟨ih0, ih1⟩ := impl_formOf.mono_l k
 unfold impl_formOf.f
 repeat' first
   | (with_reducible exact ih0 _ _)
   | (with_reducible exact ih1 _ _)
   | (with_reducible exact LeO.refl _)
   | (with_reducible exact LeO.none _)
   | (with_reducible refine LeO.ite ?_ ?_)
   | (with_reducible refine LeO.bind ?_ (fun _ => ?_))
   | exact ih0 _ _
   | exact ih1 _ _
   | exact LeO.none _
   | refine LeO.ite ?_ ?_
   | refine LeO.bind ?_ (fun _ => ?_)
set_option maxHeartbeats 8000000 in
set_option maxRecDepth 100000 in
theorem impl_formOf.calls (k : Nat) (a0 : Int) (r1 : ByteArray) (r2 : Bool) (w : World) (h : impl_formOf.f k a0 = some (r1, r2)) :
  Calls Try.prog 48 #[.int .i64 a0] w fun e w' => e = .returned (.tuple #[.string r1, .bool r2]) ∧ Drawn0 w w' := by
 have H : (if a0 = 1 then (some ((⟨#[82, 78]⟩ : ByteArray), true)) else (if a0 = 2 then (impl_formOf.j0 k a0 (a0 == 2)) else (if a0 = 4 then (impl_formOf.j0 k a0 (a0 == 4)) else (if a0 = 5 then (impl_formOf.j0 k a0 (a0 == 5)) else (if a0 = 7 then (impl_formOf.j0 k a0 (a0 == 7)) else (impl_formOf.j0 k a0 (a0 == 8))))))) = some (r1, r2) := h; clear h
 by_cases c2 : a0 = 1
 ·rw [if_pos c2] at H
  have c2b0 : (a0 == 1) = true := beq_iff_eq.mpr c2; have c2b1 : (a0 != 1) = false := bne_eq_false_iff_eq.mpr c2; clear c2; simp only [Option.some.injEq, Prod.mk.injEq] at H; obtain ⟨rfl, rfl⟩ := H
  go_enter Try.func48, Try.ntmps48
  go_wp2
  go_ret2
  exact ⟨by first | rfl | (simp; done) | (simp [*]; done), by repeat (first | exact Drawn0.refl _ | apply Drawn0.step)⟩
 ·rw [if_neg c2] at H
  have c2b0 : (a0 == 1) = false := beq_eq_false_iff_ne.mpr c2; have c2b1 : (a0 != 1) = true := bne_iff_ne.mpr c2; have bD := Aside0.mk H; clear H
  go_enter Try.func48, Try.ntmps48
  go_upto_if 7 with (fail)
  go_cut [7] (fun v7 wc => ∃ (kq : Nat) (bw : Bool), v7 = .bool bw ∧ Aside0 (impl_formOf.j0 kq a0 bw = some (r1, r2)) ∧ Aside0 (kq ≤ k) ∧ Drawn0 w wc)
  case first =>
   have H := bD.out; clear bD
   by_cases c4 : a0 = 2
   ·rw [if_pos c4] at H
    have c4b0 : (a0 == 2) = true := beq_iff_eq.mpr c4; have c4b1 : (a0 != 2) = false := bne_eq_false_iff_eq.mpr c4; clear c4; (first | rw [c4b0] | (simp only [i64_w, i32_w]; rw [c4b0]) | skip); have H' := Aside0.mk H; clear H; go_wp2
    go_meet
    case rel => exact ⟨_, ((a0 == 2)), (by first | rfl | (simp; done) | (simp [*]; done)), H', ⟨by first | omega | exact Nat.le_refl _⟩, by repeat (first | exact Drawn0.refl _ | apply Drawn0.step)⟩
   ·rw [if_neg c4] at H
    have c4b0 : (a0 == 2) = false := beq_eq_false_iff_ne.mpr c4; have c4b1 : (a0 != 2) = true := bne_iff_ne.mpr c4; (first | rw [c4b0] | (simp only [i64_w, i32_w]; rw [c4b0]) | skip)
    by_cases c5 : a0 = 4
    ·rw [if_pos c5] at H
     have c5b0 : (a0 == 4) = true := beq_iff_eq.mpr c5; have c5b1 : (a0 != 4) = false := bne_eq_false_iff_eq.mpr c5; clear c5; have H' := Aside0.mk H; clear H; go_wp2
     go_meet
     case rel => exact ⟨_, ((a0 == 4)), (by first | rfl | (simp; done) | (simp [*]; done)), H', ⟨by first | omega | exact Nat.le_refl _⟩, by repeat (first | exact Drawn0.refl _ | apply Drawn0.step)⟩
    ·rw [if_neg c5] at H
     have c5b0 : (a0 == 4) = false := beq_eq_false_iff_ne.mpr c5; have c5b1 : (a0 != 4) = true := bne_iff_ne.mpr c5
     by_cases c6 : a0 = 5
     ·rw [if_pos c6] at H
      have c6b0 : (a0 == 5) = true := beq_iff_eq.mpr c6; have c6b1 : (a0 != 5) = false := bne_eq_false_iff_eq.mpr c6; clear c6; have H' := Aside0.mk H; clear H; go_wp2
      go_meet
      case rel => exact ⟨_, ((a0 == 5)), (by first | rfl | (simp; done) | (simp [*]; done)), H', ⟨by first | omega | exact Nat.le_refl _⟩, by repeat (first | exact Drawn0.refl _ | apply Drawn0.step)⟩
     ·rw [if_neg c6] at H
      have c6b0 : (a0 == 5) = false := beq_eq_false_iff_ne.mpr c6; have c6b1 : (a0 != 5) = true := bne_iff_ne.mpr c6
      by_cases c7 : a0 = 7
      ·rw [if_pos c7] at H
       have c7b0 : (a0 == 7) = true := beq_iff_eq.mpr c7; have c7b1 : (a0 != 7) = false := bne_eq_false_iff_eq.mpr c7; clear c7; have H' := Aside0.mk H; clear H; go_wp2
       go_meet
       case rel => exact ⟨_, ((a0 == 7)), (by first | rfl | (simp; done) | (simp [*]; done)), H', ⟨by first | omega | exact Nat.le_refl _⟩, by repeat (first | exact Drawn0.refl _ | apply Drawn0.step)⟩
      ·rw [if_neg c7] at H
       have c7b0 : (a0 == 7) = false := beq_eq_false_iff_ne.mpr c7; have c7b1 : (a0 != 7) = true := bne_iff_ne.mpr c7; have H' := Aside0.mk H; clear H; go_wp2
       go_meet
       case rel => exact ⟨_, ((a0 == 8)), (by first | rfl | (simp; done) | (simp [*]; done)), H', ⟨by first | omega | exact Nat.le_refl _⟩, by repeat (first | exact Drawn0.refl _ | apply Drawn0.step)⟩
  case rest =>
   clear bD; try clear c2
   try clear c2b0
   try clear c2b1
   try clear p2
   try clear c4
   try clear c4b0
   try clear c4b1
   try clear c5
   try clear c5b0
   try clear c5b1
   try clear c6
   try clear c6b0
   try clear c6b1
   try clear c7
   try clear c7b0
   try clear c7b1
   obtain ⟨kq, bw, rfl, HA, bE, ⟨mc2, rfl⟩⟩ := hcut
   cases kq with
   | zero => exact absurd HA.out (by simp [impl_formOf.j0])
   | succ kj2 =>
    have H := HA.out; clear HA; simp only [impl_formOf.j0] at H
    by_cases c8 : bw = true
    ·subst c8
     rw [if_pos rfl] at H; (try dsimp only at H); simp only [Option.some.injEq, Prod.mk.injEq] at H; obtain ⟨rfl, rfl⟩ := H; go_wp2
     go_ret2
     exact ⟨by first | rfl | (simp; done) | (simp [*]; done), by repeat (first | exact Drawn0.refl _ | apply Drawn0.step)⟩
    ·replace c8 := Bool.eq_false_iff.mpr c8
     subst c8; rw [if_neg (show ¬ (false = true) by decide)] at H; (try dsimp only at H); have bF := Aside0.mk H; clear H
     go_upto_if 13 with (fail)
     go_cut [13] (fun dh wc => ∃ (kq : Nat) (bx : Bool), dh = .bool bx ∧ Aside0 (impl_formOf.j1 kq a0 bx = some (r1, r2)) ∧ Aside0 (kq ≤ kj2) ∧ Drawn0 w wc)
     case first =>
      have H := bF.out; clear bF
      by_cases c10 : a0 = 3
      ·rw [if_pos c10] at H
       have c10b0 : (a0 == 3) = true := beq_iff_eq.mpr c10; have c10b1 : (a0 != 3) = false := bne_eq_false_iff_eq.mpr c10; clear c10; (first | rw [c10b0] | (simp only [i64_w, i32_w]; rw [c10b0]) | skip); have H' := Aside0.mk H; clear H; go_wp2
       go_meet
       case rel => exact ⟨_, ((a0 == 3)), (by first | rfl | (simp; done) | (simp [*]; done)), H', ⟨by have := bE.out; first | omega | exact Nat.le_refl _⟩, by repeat (first | exact Drawn0.refl _ | apply Drawn0.step)⟩
      ·rw [if_neg c10] at H
       have c10b0 : (a0 == 3) = false := beq_eq_false_iff_ne.mpr c10; have c10b1 : (a0 != 3) = true := bne_iff_ne.mpr c10; (first | rw [c10b0] | (simp only [i64_w, i32_w]; rw [c10b0]) | skip)
       by_cases c11 : a0 = 9
       ·rw [if_pos c11] at H
        have c11b0 : (a0 == 9) = true := beq_iff_eq.mpr c11; have c11b1 : (a0 != 9) = false := bne_eq_false_iff_eq.mpr c11; clear c11; have H' := Aside0.mk H; clear H; go_wp2
        go_meet
        case rel => exact ⟨_, ((a0 == 9)), (by first | rfl | (simp; done) | (simp [*]; done)), H', ⟨by have := bE.out; first | omega | exact Nat.le_refl _⟩, by repeat (first | exact Drawn0.refl _ | apply Drawn0.step)⟩
       ·rw [if_neg c11] at H
        have c11b0 : (a0 == 9) = false := beq_eq_false_iff_ne.mpr c11; have c11b1 : (a0 != 9) = true := bne_iff_ne.mpr c11; have H' := Aside0.mk H; clear H; go_wp2
        go_meet
        case rel => exact ⟨_, ((a0 == 12)), (by first | rfl | (simp; done) | (simp [*]; done)), H', ⟨by have := bE.out; first | omega | exact Nat.le_refl _⟩, by repeat (first | exact Drawn0.refl _ | apply Drawn0.step)⟩
     case rest =>
      clear bF; try clear c1
      try clear c2
      try clear c2b0
      try clear c2b1
      try clear p2
      try clear c4
      try clear c4b0
      try clear c4b1
      try clear c5
      try clear c5b0
      try clear c5b1
      try clear c6
      try clear c6b0
      try clear c6b1
      try clear c7
      try clear c7b0
      try clear c7b1
      try clear c8
      try clear c10
      try clear c10b0
      try clear c10b1
      try clear c11
      try clear c11b0
      try clear c11b1
      try clear p2
      obtain ⟨kq, bx, rfl, HA, hn, ⟨mc8, rfl⟩⟩ := hcut
      cases kq with
      | zero => exact absurd HA.out (by simp [impl_formOf.j1])
      | succ kj8 =>
       have H := HA.out; clear HA; simp only [impl_formOf.j1] at H
       by_cases c12 : bx = true
       ·subst c12
        rw [if_pos rfl] at H; (try dsimp only at H); simp only [Option.some.injEq, Prod.mk.injEq] at H; obtain ⟨rfl, rfl⟩ := H; go_wp2
        go_ret2
        exact ⟨by first | rfl | (simp; done) | (simp [*]; done), by repeat (first | exact Drawn0.refl _ | apply Drawn0.step)⟩
       ·replace c12 := Bool.eq_false_iff.mpr c12
        subst c12; rw [if_neg (show ¬ (false = true) by decide)] at H; (try dsimp only at H)
        by_cases c13 : a0 = 6
        ·rw [if_pos c13] at H
         have c13b0 : (a0 == 6) = true := beq_iff_eq.mpr c13; have c13b1 : (a0 != 6) = false := bne_eq_false_iff_eq.mpr c13; clear c13; simp only [Option.some.injEq, Prod.mk.injEq] at H; obtain ⟨rfl, rfl⟩ := H; go_wp2
         go_ret2
         exact ⟨by first | rfl | (simp; done) | (simp [*]; done), by repeat (first | exact Drawn0.refl _ | apply Drawn0.step)⟩
        ·rw [if_neg c13] at H
         have c13b0 : (a0 == 6) = false := beq_eq_false_iff_ne.mpr c13; have c13b1 : (a0 != 6) = true := bne_iff_ne.mpr c13
         by_cases c14 : a0 = 10
         ·rw [if_pos c14] at H
          have c14b0 : (a0 == 10) = true := beq_iff_eq.mpr c14; have c14b1 : (a0 != 10) = false := bne_eq_false_iff_eq.mpr c14; clear c14; simp only [Option.some.injEq, Prod.mk.injEq] at H; obtain ⟨rfl, rfl⟩ := H; go_wp2
          go_ret2
          exact ⟨by first | rfl | (simp; done) | (simp [*]; done), by repeat (first | exact Drawn0.refl _ | apply Drawn0.step)⟩
         ·rw [if_neg c14] at H
          have c14b0 : (a0 == 10) = false := beq_eq_false_iff_ne.mpr c14; have c14b1 : (a0 != 10) = true := bne_iff_ne.mpr c14
          by_cases c15 : a0 = 11
          ·rw [if_pos c15] at H
           have c15b0 : (a0 == 11) = true := beq_iff_eq.mpr c15; have c15b1 : (a0 != 11) = false := bne_eq_false_iff_eq.mpr c15; clear c15; simp only [Option.some.injEq, Prod.mk.injEq] at H; obtain ⟨rfl, rfl⟩ := H; go_wp2
           go_ret2
           exact ⟨by first | rfl | (simp; done) | (simp [*]; done), by repeat (first | exact Drawn0.refl _ | apply Drawn0.step)⟩
          ·rw [if_neg c15] at H
           have c15b0 : (a0 == 11) = false := beq_eq_false_iff_ne.mpr c15; have c15b1 : (a0 != 11) = true := bne_iff_ne.mpr c15
           by_cases c16 : a0 = 13
           ·rw [if_pos c16] at H
            have c16b0 : (a0 == 13) = true := beq_iff_eq.mpr c16; have c16b1 : (a0 != 13) = false := bne_eq_false_iff_eq.mpr c16; clear c16; simp only [Option.some.injEq, Prod.mk.injEq] at H; obtain ⟨rfl, rfl⟩ := H; go_wp2
            go_ret2
            exact ⟨by first | rfl | (simp; done) | (simp [*]; done), by repeat (first | exact Drawn0.refl _ | apply Drawn0.step)⟩
           ·rw [if_neg c16] at H
            have c16b0 : (a0 == 13) = false := beq_eq_false_iff_ne.mpr c16; have c16b1 : (a0 != 13) = true := bne_iff_ne.mpr c16
            by_cases c17 : a0 = 14
            ·rw [if_pos c17] at H
             have c17b0 : (a0 == 14) = true := beq_iff_eq.mpr c17; have c17b1 : (a0 != 14) = false := bne_eq_false_iff_eq.mpr c17; clear c17; simp only [Option.some.injEq, Prod.mk.injEq] at H; obtain ⟨rfl, rfl⟩ := H; go_wp2
             go_ret2
             exact ⟨by first | rfl | (simp; done) | (simp [*]; done), by repeat (first | exact Drawn0.refl _ | apply Drawn0.step)⟩
            ·rw [if_neg c17] at H
             have c17b0 : (a0 == 14) = false := beq_eq_false_iff_ne.mpr c17; have c17b1 : (a0 != 14) = true := bne_iff_ne.mpr c17
             by_cases c18 : a0 = 15
             ·rw [if_pos c18] at H
              have c18b0 : (a0 == 15) = true := beq_iff_eq.mpr c18; have c18b1 : (a0 != 15) = false := bne_eq_false_iff_eq.mpr c18; clear c18; simp only [Option.some.injEq, Prod.mk.injEq] at H; obtain ⟨rfl, rfl⟩ := H; go_wp2
              go_ret2
              exact ⟨by first | rfl | (simp; done) | (simp [*]; done), by repeat (first | exact Drawn0.refl _ | apply Drawn0.step)⟩
             ·rw [if_neg c18] at H
              have c18b0 : (a0 == 15) = false := beq_eq_false_iff_ne.mpr c18; have c18b1 : (a0 != 15) = true := bne_iff_ne.mpr c18; simp only [Option.some.injEq, Prod.mk.injEq] at H; obtain ⟨rfl, rfl⟩ := H; go_wp2
              go_ret2
              exact ⟨by first | rfl | (simp; done) | (simp [*]; done), by repeat (first | exact Drawn0.refl _ | apply Drawn0.step)⟩
end Go.Proofs.Ytpcladboobfkhaa.PFnWork
