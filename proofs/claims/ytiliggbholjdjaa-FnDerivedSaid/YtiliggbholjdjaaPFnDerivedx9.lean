-- Written by a program of this session (wip/patch.py turns a copy of the kit's print): the functions that the law reaches, and their walks.
import Derived.Test.YtiliggbholjdjaaPFnDerivedx0
import Derived.Test.YtiliggbholjdjaaPFnDerivedx3
import Derived.Test.YtiliggbholjdjaaPFnDerivedx5
import Derived.Test.YtiliggbholjdjaaPFnDerivedx6
import Derived.Test.YtiliggbholjdjaaPFnDerivedx7
import Derived.Test.YtiliggbholjdjaaPFnDerivedx8
import Derived.Test.YtiliggbholjdjaaCFnDerived
namespace Go.Proofs.Ytiliggbholjdjaa.PFnDerived
open Go.RowKit Go.Proofs.YtiliggbholjdjaaW.PrintWords Go.Proofs.YtiliggbholjdjaaW.PrintLast Go.Proofs.YtiliggbholjdjaaW.PrintMore Go.Proofs.YtiliggbholjdjaaW.Mine
attribute [local go_sem] max2_int min2_int max_two min_two max_three min_three max_four min_four   -- for this text's walks alone
set_option linter.unusedVariables false
set_option linter.unusedSimpArgs false

/-! ### spec_Narrow: function 17 -/
def spec_Narrow.j0 : Nat → Int → Bool → Int → Bool → Int → Int → Int → Int → Option (Int × Bool × Int × Int × Int × Int)
 | 0, _, _, _, _, _, _, _, _ => none
 | k + 1, x1, gS, dd, du, dv, dw, dx, dy => if gS = true then ((spec_Bare.f dd du dv dw dx dy).bind fun bF => (some (bF.1, bF.2.1, bF.2.2.1, bF.2.2.2.1, bF.2.2.2.2.1, bF.2.2.2.2.2))) else ((spec_Wide.f k dd (wrap64 (dd + x1))).bind fun bY => (if bY.1 < dv then ((spec_Bare.f dd du dv dw dx dy).bind fun bs => (some (bs.1, bs.2.1, bs.2.2.1, bs.2.2.2.1, bs.2.2.2.2.1, bs.2.2.2.2.2))) else (if bY.2 > dw then ((spec_Bare.f dd du dv dw dx dy).bind fun bt => (some (bt.1, bt.2.1, bt.2.2.1, bt.2.2.2.1, bt.2.2.2.2.1, bt.2.2.2.2.2))) else (some (dd, du, bY.1, bY.2, dx, dy)))))
def spec_Narrow.f (k : Nat) (a0_0 : Int) (a0_1 : Bool) (a0_2 : Int) (a0_3 : Int) (a0_4 : Int) (a0_5 : Int) (a1 : Int) : Option (Int × Bool × Int × Int × Int × Int) := (spec_l4Open.f k a0_0 a0_1 a0_2 a0_3 a0_4 a0_5).bind fun de => (if de = true then ((spec_l1In.f a1 0 4096).bind fun bV => (if bV = true then ((spec_BoundsOk.f a0_0 (wrap64 (a0_0 + a1))).bind fun bw => (spec_Narrow.j0 k a1 (!bw) a0_0 a0_1 a0_2 a0_3 a0_4 a0_5)) else (spec_Narrow.j0 k a1 true a0_0 a0_1 a0_2 a0_3 a0_4 a0_5))) else (spec_Narrow.j0 k a1 true a0_0 a0_1 a0_2 a0_3 a0_4 a0_5))
theorem spec_Narrow.mono_l : ∀ k, (∀ y0 y1 y2 y3 y4 y5 y6 y7, LeO (spec_Narrow.j0 k y0 y1 y2 y3 y4 y5 y6 y7) (spec_Narrow.j0 (k + 1) y0 y1 y2 y3 y4 y5 y6 y7))
 | 0 => fun _ _ _ _ _ _ _ _ r h => by simp [spec_Narrow.j0] at h
 | k + 1 => by
  have ih0 := spec_Narrow.mono_l k
  ·intro y0 y1 y2 y3 y4 y5 y6 y7
   unfold spec_Narrow.j0
   repeat' first
   | (with_reducible exact ih0 _ _ _ _ _ _ _ _)
   | (with_reducible exact spec_Wide.mono _ _ _)
   | (with_reducible exact spec_l4Open.mono _ _ _ _ _ _ _)
   | (with_reducible exact LeO.refl _)
   | (with_reducible exact LeO.none _)
   | (with_reducible refine LeO.ite ?_ ?_)
   | (with_reducible refine LeO.bind ?_ (fun _ => ?_))
   | exact ih0 _ _ _ _ _ _ _ _
   | exact spec_Wide.mono _ _ _
   | exact spec_l4Open.mono _ _ _ _ _ _ _
   | exact LeO.none _
   | refine LeO.ite ?_ ?_
   | refine LeO.bind ?_ (fun _ => ?_)
theorem spec_Narrow.mono : ∀ a0 a1 a2 a3 a4 a5 a6 k, LeO (spec_Narrow.f k a0 a1 a2 a3 a4 a5 a6) (spec_Narrow.f (k + 1) a0 a1 a2 a3 a4 a5 a6) := by
 intro a0 a1 a2 a3 a4 a5 a6 k; have ih0 := spec_Narrow.mono_l k
 unfold spec_Narrow.f
 repeat' first
   | (with_reducible exact ih0 _ _ _ _ _ _ _ _)
   | (with_reducible exact spec_Wide.mono _ _ _)
   | (with_reducible exact spec_l4Open.mono _ _ _ _ _ _ _)
   | (with_reducible exact LeO.refl _)
   | (with_reducible exact LeO.none _)
   | (with_reducible refine LeO.ite ?_ ?_)
   | (with_reducible refine LeO.bind ?_ (fun _ => ?_))
   | exact ih0 _ _ _ _ _ _ _ _
   | exact spec_Wide.mono _ _ _
   | exact spec_l4Open.mono _ _ _ _ _ _ _
   | exact LeO.none _
   | refine LeO.ite ?_ ?_
   | refine LeO.bind ?_ (fun _ => ?_)
set_option maxHeartbeats 8000000 in
set_option maxRecDepth 100000 in
theorem spec_Narrow.calls (k : Nat) (a0_0 : Int) (a0_1 : Bool) (a0_2 : Int) (a0_3 : Int) (a0_4 : Int) (a0_5 : Int) (a1 : Int) (r1 : Int) (r2 : Bool) (r3 : Int) (r4 : Int) (r5 : Int) (r6 : Int) (w : World) (h : spec_Narrow.f k a0_0 a0_1 a0_2 a0_3 a0_4 a0_5 a1 = some (r1, r2, r3, r4, r5, r6)) :
  Calls Try.prog 17 #[.agg #[.int .i64 a0_0, .bool a0_1, .int .i64 a0_2, .int .i64 a0_3, .int .i64 a0_4, .int .i64 a0_5], .int .i64 a1] w fun e w' => e = .returned (.agg #[.int .i64 r1, .bool r2, .int .i64 r3, .int .i64 r4, .int .i64 r5, .int .i64 r6]) ∧ Below w.heap.size w w' := by
 have hu27 := Try.underlying27; have HB := Aside0.mk (Below.refl w.heap.size w); have H : ((spec_l4Open.f k a0_0 a0_1 a0_2 a0_3 a0_4 a0_5).bind fun de => (if de = true then ((spec_l1In.f a1 0 4096).bind fun bV => (if bV = true then ((spec_BoundsOk.f a0_0 (wrap64 (a0_0 + a1))).bind fun bw => (spec_Narrow.j0 k a1 (!bw) a0_0 a0_1 a0_2 a0_3 a0_4 a0_5)) else (spec_Narrow.j0 k a1 true a0_0 a0_1 a0_2 a0_3 a0_4 a0_5))) else (spec_Narrow.j0 k a1 true a0_0 a0_1 a0_2 a0_3 a0_4 a0_5))) = some (r1, r2, r3, r4, r5, r6) := h; clear h; have dS := Aside0.mk H; clear H
 go_enter Try.func17, Try.ntmps17
 go_upto_region 1 with (first | ((with_reducible refine gate_dst (N := 2) rfl ?_); refine bxe 2 #[.int .i64 a0_0, .bool a0_1, .int .i64 a0_2, .int .i64 a0_3, .int .i64 a0_4, .int .i64 a0_5] 27 ?_; intro gT hg w4 hbox hb; have bb := hbox; have ja := nge HB hg; have jb := nge HB hg; replace HB := nbs HB hb; clear hb hbox hg) | ((with_reducible refine gate_dst (N := 4) rfl ?_); refine bxe 4 #[.int .i64 0, .bool false, .int .i64 0, .int .i64 0, .int .i64 0, .int .i64 0] 27 ?_; intro dl hg w5 hbox hb; have bg := hbox; have jc := nge HB hg; have jd := nge HB hg; have db := nlt bb hg; have b3 := ngt bb hg; replace bb := nblk bb hb; replace HB := nbs HB hb; clear hb hbox hg))
 (try simp only [Act.put, List.setIfInBounds_toArray, List.set_cons_zero, List.set_cons_succ])
 go_cut [24] (fun gU wc => ∃ (kq : Nat) (dz : Bool), gU = .bool dz ∧ Aside0 (spec_Narrow.j0 kq a1 dz a0_0 a0_1 a0_2 a0_3 a0_4 a0_5 = some (r1, r2, r3, r4, r5, r6)) ∧ Aside0 (kq ≤ k) ∧ Aside0 (wc.heap[gT]? = some (.cells #[.int .i64 a0_0, .bool a0_1, .int .i64 a0_2, .int .i64 a0_3, .int .i64 a0_4, .int .i64 a0_5] 27 (0, 0))) ∧ Aside0 (wc.heap[dl]? = some (.cells #[.int .i64 0, .bool false, .int .i64 0, .int .i64 0, .int .i64 0, .int .i64 0] 27 (0, 0))) ∧ Aside0 (Below w.heap.size w wc))
 case first =>
  have H := dS.out; clear dS; replace H := Option.bind_eq_some_iff.mp H; obtain ⟨de, A60, H⟩ := H; replace H : (if de = true then ((spec_l1In.f a1 0 4096).bind fun bV => (if bV = true then ((spec_BoundsOk.f a0_0 (wrap64 (a0_0 + a1))).bind fun bw => (spec_Narrow.j0 k a1 (!bw) a0_0 a0_1 a0_2 a0_3 a0_4 a0_5)) else (spec_Narrow.j0 k a1 true a0_0 a0_1 a0_2 a0_3 a0_4 a0_5))) else (spec_Narrow.j0 k a1 true a0_0 a0_1 a0_2 a0_3 a0_4 a0_5)) = some (r1, r2, r3, r4, r5, r6) := H; have A6 := Aside0.mk A60; clear A60
  by_cases c7 : de = true
  ·subst c7
   have H1 : ((spec_l1In.f a1 0 4096).bind fun bV => (if bV = true then ((spec_BoundsOk.f a0_0 (wrap64 (a0_0 + a1))).bind fun bw => (spec_Narrow.j0 k a1 (!bw) a0_0 a0_1 a0_2 a0_3 a0_4 a0_5)) else (spec_Narrow.j0 k a1 true a0_0 a0_1 a0_2 a0_3 a0_4 a0_5))) = some (r1, r2, r3, r4, r5, r6) := by rw [if_pos rfl] at H; exact H
   clear H; have H := H1; clear H1; replace H := Option.bind_eq_some_iff.mp H; obtain ⟨bV, A80, H⟩ := H; replace H : (if bV = true then ((spec_BoundsOk.f a0_0 (wrap64 (a0_0 + a1))).bind fun bw => (spec_Narrow.j0 k a1 (!bw) a0_0 a0_1 a0_2 a0_3 a0_4 a0_5)) else (spec_Narrow.j0 k a1 true a0_0 a0_1 a0_2 a0_3 a0_4 a0_5)) = some (r1, r2, r3, r4, r5, r6) := H; have A8 := Aside0.mk A80; clear A80
   by_cases c9 : bV = true
   ·subst c9
    have H1 : ((spec_BoundsOk.f a0_0 (wrap64 (a0_0 + a1))).bind fun bw => (spec_Narrow.j0 k a1 (!bw) a0_0 a0_1 a0_2 a0_3 a0_4 a0_5)) = some (r1, r2, r3, r4, r5, r6) := by rw [if_pos rfl] at H; exact H
    clear H; have H := H1; clear H1; replace H := Option.bind_eq_some_iff.mp H; obtain ⟨bw, A100, H⟩ := H; replace H : (spec_Narrow.j0 k a1 (!bw) a0_0 a0_1 a0_2 a0_3 a0_4 a0_5) = some (r1, r2, r3, r4, r5, r6) := H; have A10 := Aside0.mk A100; clear A100; have H' := Aside0.mk H; clear H; have eU := db.out; have eV := b3.out; obtain ⟨eW, eX, eY, eZ, e0, e1⟩ := c6e bb; obtain ⟨e2, e3, e4, e5, e6, e7⟩ := z6_ bb
    go_wp2_with (first | ((with_reducible refine gate_callee (f := 67) rfl ?_); refine goesM (some 8) rfl rfl Try.func67 (by kernel_rfl) rfl #[.agg #[.int .i64 a0_0, .bool a0_1, .int .i64 a0_2, .int .i64 a0_3, .int .i64 a0_4, .int .i64 a0_5]] rfl ?_; (with_reducible refine (spec_l4Open.calls k a0_0 a0_1 a0_2 a0_3 a0_4 a0_5 true _ A6.out).mono ?_); rintro e dT ⟨rfl, hb⟩; refine ⟨_, rfl, ?_⟩; replace bb := nblk bb hb; replace bg := nblk bg hb; replace HB := nbs HB hb; (try clear hb)) | (go_at_call 68; (with_reducible refine (spec_l1In.calls a1 0 4096 true _ A8.out).mono ?_); rintro e w' ⟨rfl, ⟨nd, rfl⟩⟩; obtain ⟨gV, gW, gX, gY, gZ, g0⟩ := c6e bb; obtain ⟨g1, g2, g3, g4, g5, g7⟩ := z6_ bb) | (go_at_call 69; (with_reducible refine (spec_BoundsOk.calls a0_0 (wrap64 (a0_0 + a1)) bw _ A10.out).mono ?_); rintro e w' ⟨rfl, ⟨nd, rfl⟩⟩))
    go_meet
    case rel => exact ⟨_, (!bw), (by first | rfl | (simp; done) | (simp [*]; done)), H', ⟨by first | omega | exact Nat.le_refl _⟩, ⟨nb bb⟩, ⟨nb bg⟩, ⟨nbe HB⟩⟩
   ·replace c9 := Bool.eq_false_iff.mpr c9
    subst c9; have H1 : (spec_Narrow.j0 k a1 true a0_0 a0_1 a0_2 a0_3 a0_4 a0_5) = some (r1, r2, r3, r4, r5, r6) := by rw [if_neg (show ¬ (false = true) by decide)] at H; exact H
    clear H; have H := H1; clear H1; have H' := Aside0.mk H; clear H; have g8 := db.out; have g9 := b3.out; obtain ⟨e8, e9, ga, gb, gc, gd⟩ := c6e bb; obtain ⟨gf, gg, gh, gi, gj, gl⟩ := z6_ bb
    go_wp2_with (first | ((with_reducible refine gate_callee (f := 67) rfl ?_); refine goesM (some 8) rfl rfl Try.func67 (by kernel_rfl) rfl #[.agg #[.int .i64 a0_0, .bool a0_1, .int .i64 a0_2, .int .i64 a0_3, .int .i64 a0_4, .int .i64 a0_5]] rfl ?_; (with_reducible refine (spec_l4Open.calls k a0_0 a0_1 a0_2 a0_3 a0_4 a0_5 true _ A6.out).mono ?_); rintro e ha ⟨rfl, hb⟩; refine ⟨_, rfl, ?_⟩; replace bb := nblk bb hb; replace bg := nblk bg hb; replace HB := nbs HB hb; (try clear hb)) | (go_at_call 68; (with_reducible refine (spec_l1In.calls a1 0 4096 false _ A8.out).mono ?_); rintro e w' ⟨rfl, ⟨nd, rfl⟩⟩))
    go_meet
    case rel => exact ⟨_, (true), (by first | rfl | (simp; done) | (simp [*]; done)), H', ⟨by first | omega | exact Nat.le_refl _⟩, ⟨nb bb⟩, ⟨nb bg⟩, ⟨nbe HB⟩⟩
  ·replace c7 := Bool.eq_false_iff.mpr c7
   subst c7; have H1 : (spec_Narrow.j0 k a1 true a0_0 a0_1 a0_2 a0_3 a0_4 a0_5) = some (r1, r2, r3, r4, r5, r6) := by rw [if_neg (show ¬ (false = true) by decide)] at H; exact H
   clear H; have H := H1; clear H1; have H' := Aside0.mk H; clear H; have je := db.out; have jf := b3.out; obtain ⟨dA, dB, dC, dD, dE, dF⟩ := c6e bb; obtain ⟨dG, dH, dI, dJ, dK, dL⟩ := z6_ bb
   go_wp2_with (first | ((with_reducible refine gate_callee (f := 67) rfl ?_); refine goesM (some 8) rfl rfl Try.func67 (by kernel_rfl) rfl #[.agg #[.int .i64 a0_0, .bool a0_1, .int .i64 a0_2, .int .i64 a0_3, .int .i64 a0_4, .int .i64 a0_5]] rfl ?_; (with_reducible refine (spec_l4Open.calls k a0_0 a0_1 a0_2 a0_3 a0_4 a0_5 false _ A6.out).mono ?_); rintro e hc ⟨rfl, hb⟩; refine ⟨_, rfl, ?_⟩; replace bb := nblk bb hb; replace bg := nblk bg hb; replace HB := nbs HB hb; (try clear hb)))
   go_meet
   case rel => exact ⟨_, (true), (by first | rfl | (simp; done) | (simp [*]; done)), H', ⟨by first | omega | exact Nat.le_refl _⟩, ⟨nb bb⟩, ⟨nb bg⟩, ⟨nbe HB⟩⟩
 case rest =>
  clear dS; try clear c1
  try clear p2
  try clear c6
  try clear p6
  try clear c7
  try clear c9
  try clear c11
  try clear c15
  try clear c17
  try clear c18
  try clear eW
  try clear eX
  try clear eY
  try clear eZ
  try clear e0
  try clear e1
  try clear gV
  try clear gW
  try clear gX
  try clear gY
  try clear gZ
  try clear g0
  try clear e8
  try clear e9
  try clear ga
  try clear gb
  try clear gc
  try clear gd
  try clear dA
  try clear dB
  try clear dC
  try clear dD
  try clear dE
  try clear dF
  try clear e2
  try clear e3
  try clear e4
  try clear e5
  try clear e6
  try clear e7
  try clear g1
  try clear g2
  try clear g3
  try clear g4
  try clear g5
  try clear g7
  try clear gf
  try clear gg
  try clear gh
  try clear gi
  try clear gj
  try clear gl
  try clear dG
  try clear dH
  try clear dI
  try clear dJ
  try clear dK
  try clear dL
  obtain ⟨kq, dz, rfl, HA, jg, bb, bg, HB⟩ := hcut
  cases kq with
  | zero => exact absurd HA.out (by simp [spec_Narrow.j0])
  | succ kj2 =>
   have H := HA.out; clear HA; simp only [spec_Narrow.j0] at H
   by_cases c21 : dz = true
   ·subst c21
    have H1 : ((spec_Bare.f a0_0 a0_1 a0_2 a0_3 a0_4 a0_5).bind fun bF => (some (bF.1, bF.2.1, bF.2.2.1, bF.2.2.2.1, bF.2.2.2.2.1, bF.2.2.2.2.2))) = some (r1, r2, r3, r4, r5, r6) := by rw [if_pos rfl] at H; exact H
    clear H; have H := H1; clear H1; replace H := Option.bind_eq_some_iff.mp H; obtain ⟨⟨dU, dV, dW, dX, dY, dZ⟩, A220, H⟩ := H; replace H : (some (dU, dV, dW, dX, dY, dZ)) = some (r1, r2, r3, r4, r5, r6) := H; have A22 := Aside0.mk A220; clear A220; simp only [Option.some.injEq, Prod.mk.injEq] at H; obtain ⟨rfl, rfl, rfl, rfl, rfl, rfl⟩ := H; have jh := db.out; have ji := b3.out; obtain ⟨jj, jk, jl, jm, jn, jo⟩ := c6e bb; obtain ⟨jp, jq, jr, js, jt, ju⟩ := z6_ bb
    go_wp2_with (first | ((with_reducible refine gate_callee (f := 49) rfl ?_); refine goesM (some 26) rfl rfl Try.func49 (by kernel_rfl) rfl #[.agg #[.int .i64 a0_0, .bool a0_1, .int .i64 a0_2, .int .i64 a0_3, .int .i64 a0_4, .int .i64 a0_5]] rfl ?_; (with_reducible refine (spec_Bare.calls a0_0 a0_1 a0_2 a0_3 a0_4 a0_5 dU dV dW dX dY dZ _ A22.out).mono ?_); rintro e jv ⟨rfl, hb⟩; refine ⟨_, rfl, ?_⟩; replace bb := nblk bb hb; replace bg := nblk bg hb; replace HB := nbs HB hb; (try clear hb); obtain ⟨hd, hf, hh, hj, hl, hm⟩ := c6e bg; obtain ⟨hn, ho, hp, hq, hr, hs⟩ := z6_ bg))
    refine bodyPost_ret (results_cell_row rfl _ _ dl 27 #[.int .i64 dU, .bool dV, .int .i64 dW, .int .i64 dX, .int .i64 dY, .int .i64 dZ] (0, 0) _ rfl (q6 bg) Try.underlying27 rfl (by kernel_rfl)) rfl ?_; exact ⟨er_, nbe HB⟩
   ·replace c21 := Bool.eq_false_iff.mpr c21
    subst c21; have H1 : ((spec_Wide.f kj2 a0_0 (wrap64 (a0_0 + a1))).bind fun bY => (if bY.1 < a0_2 then ((spec_Bare.f a0_0 a0_1 a0_2 a0_3 a0_4 a0_5).bind fun bs => (some (bs.1, bs.2.1, bs.2.2.1, bs.2.2.2.1, bs.2.2.2.2.1, bs.2.2.2.2.2))) else (if bY.2 > a0_3 then ((spec_Bare.f a0_0 a0_1 a0_2 a0_3 a0_4 a0_5).bind fun bt => (some (bt.1, bt.2.1, bt.2.2.1, bt.2.2.2.1, bt.2.2.2.2.1, bt.2.2.2.2.2))) else (some (a0_0, a0_1, bY.1, bY.2, a0_4, a0_5))))) = some (r1, r2, r3, r4, r5, r6) := by rw [if_neg (show ¬ (false = true) by decide)] at H; exact H
    clear H; have H := H1; clear H1; replace H := Option.bind_eq_some_iff.mp H; obtain ⟨⟨bZ, b0⟩, A270, H⟩ := H; replace H : (if bZ < a0_2 then ((spec_Bare.f a0_0 a0_1 a0_2 a0_3 a0_4 a0_5).bind fun bs => (some (bs.1, bs.2.1, bs.2.2.1, bs.2.2.2.1, bs.2.2.2.2.1, bs.2.2.2.2.2))) else (if b0 > a0_3 then ((spec_Bare.f a0_0 a0_1 a0_2 a0_3 a0_4 a0_5).bind fun bt => (some (bt.1, bt.2.1, bt.2.2.1, bt.2.2.2.1, bt.2.2.2.2.1, bt.2.2.2.2.2))) else (some (a0_0, a0_1, bZ, b0, a0_4, a0_5)))) = some (r1, r2, r3, r4, r5, r6) := H; have A27 := Aside0.mk A270; clear A270
    by_cases c28 : bZ < a0_2
    ·rw [if_pos c28] at H
     have c28b0 : decide (bZ < a0_2) = true := decide_eq_true c28; clear c28; replace H := Option.bind_eq_some_iff.mp H; obtain ⟨⟨d0, d1, d2, d3, d4, d5⟩, A290, H⟩ := H; replace H : (some (d0, d1, d2, d3, d4, d5)) = some (r1, r2, r3, r4, r5, r6) := H; have A29 := Aside0.mk A290; clear A290; simp only [Option.some.injEq, Prod.mk.injEq] at H; obtain ⟨rfl, rfl, rfl, rfl, rfl, rfl⟩ := H; have jw := db.out; have jx := b3.out; obtain ⟨ht, hu, hv, hw, hx, hy⟩ := c6e bb; obtain ⟨hz, hA, hC, hD, hE, hF⟩ := z6_ bb
     go_wp2_with (first | ((with_reducible refine gate_callee (f := 70) rfl ?_); refine goesM (some 34) rfl rfl Try.func70 (by kernel_rfl) rfl #[.int .i64 a0_0, .int .i64 (wrap64 (a0_0 + a1))] rfl ?_; (with_reducible refine (spec_Wide.calls kj2 a0_0 (wrap64 (a0_0 + a1)) bZ b0 _ A27.out).mono ?_); rintro e hG ⟨rfl, hb⟩; refine ⟨_, rfl, ?_⟩; replace bb := nblk bb hb; replace bg := nblk bg hb; replace HB := nbs HB hb; (try clear hb); obtain ⟨hH, hJ, hL, hM, hN, hO⟩ := c6e bb; obtain ⟨hQ, hR, hS, hT, hU, hV⟩ := z6_ bb) | ((with_reducible refine gate_callee (f := 49) rfl ?_); refine goesM (some 50) rfl rfl Try.func49 (by kernel_rfl) rfl #[.agg #[.int .i64 a0_0, .bool a0_1, .int .i64 a0_2, .int .i64 a0_3, .int .i64 a0_4, .int .i64 a0_5]] rfl ?_; (with_reducible refine (spec_Bare.calls a0_0 a0_1 a0_2 a0_3 a0_4 a0_5 d0 d1 d2 d3 d4 d5 _ A29.out).mono ?_); rintro e jy ⟨rfl, hb⟩; refine ⟨_, rfl, ?_⟩; replace bb := nblk bb hb; replace bg := nblk bg hb; replace HB := nbs HB hb; (try clear hb); obtain ⟨jz, jA, jB, jC, jD, jE⟩ := c6e bg; obtain ⟨jF, jG, jH, jI, jJ, jK⟩ := z6_ bg))
     refine bodyPost_ret (results_cell_row rfl _ _ dl 27 #[.int .i64 d0, .bool d1, .int .i64 d2, .int .i64 d3, .int .i64 d4, .int .i64 d5] (0, 0) _ rfl (q6 bg) Try.underlying27 rfl (by kernel_rfl)) rfl ?_; exact ⟨er_, nbe HB⟩
    ·rw [if_neg c28] at H
     have c28b0 : decide (bZ < a0_2) = false := decide_eq_false c28; clear c28
     by_cases c36 : b0 > a0_3
     ·rw [if_pos c36] at H
      have c36b0 : decide (a0_3 < b0) = true := decide_eq_true c36; clear c36; replace H := Option.bind_eq_some_iff.mp H; obtain ⟨⟨d6, d7, d8, d9, ea, eb⟩, A370, H⟩ := H; replace H : (some (d6, d7, d8, d9, ea, eb)) = some (r1, r2, r3, r4, r5, r6) := H; have A37 := Aside0.mk A370; clear A370; simp only [Option.some.injEq, Prod.mk.injEq] at H; obtain ⟨rfl, rfl, rfl, rfl, rfl, rfl⟩ := H; have hW := db.out; have hX := b3.out; obtain ⟨jL, jM, jN, jO, jP, jQ⟩ := c6e bb; obtain ⟨jR, jS, jT, jU, jV, jW⟩ := z6_ bb
      go_wp2_with (first | ((with_reducible refine gate_callee (f := 70) rfl ?_); refine goesM (some 34) rfl rfl Try.func70 (by kernel_rfl) rfl #[.int .i64 a0_0, .int .i64 (wrap64 (a0_0 + a1))] rfl ?_; (with_reducible refine (spec_Wide.calls kj2 a0_0 (wrap64 (a0_0 + a1)) bZ b0 _ A27.out).mono ?_); rintro e jX ⟨rfl, hb⟩; refine ⟨_, rfl, ?_⟩; replace bb := nblk bb hb; replace bg := nblk bg hb; replace HB := nbs HB hb; (try clear hb); obtain ⟨jY, jZ, j1, j2, j3, j4⟩ := c6e bb; obtain ⟨j5, j6, j7, j8, j9, ka⟩ := z6_ bb) | ((with_reducible refine gate_callee (f := 49) rfl ?_); refine goesM (some 50) rfl rfl Try.func49 (by kernel_rfl) rfl #[.agg #[.int .i64 a0_0, .bool a0_1, .int .i64 a0_2, .int .i64 a0_3, .int .i64 a0_4, .int .i64 a0_5]] rfl ?_; (with_reducible refine (spec_Bare.calls a0_0 a0_1 a0_2 a0_3 a0_4 a0_5 d6 d7 d8 d9 ea eb _ A37.out).mono ?_); rintro e kb ⟨rfl, hb⟩; refine ⟨_, rfl, ?_⟩; replace bb := nblk bb hb; replace bg := nblk bg hb; replace HB := nbs HB hb; (try clear hb); obtain ⟨kc, kd, ke, kf, kg, kh⟩ := c6e bg; obtain ⟨ki, kj, kk, kl, km, kn⟩ := z6_ bg))
      refine bodyPost_ret (results_cell_row rfl _ _ dl 27 #[.int .i64 d6, .bool d7, .int .i64 d8, .int .i64 d9, .int .i64 ea, .int .i64 eb] (0, 0) _ rfl (q6 bg) Try.underlying27 rfl (by kernel_rfl)) rfl ?_; exact ⟨er_, nbe HB⟩
     ·rw [if_neg c36] at H
      have c36b0 : decide (a0_3 < b0) = false := decide_eq_false c36; clear c36; simp only [Option.some.injEq, Prod.mk.injEq] at H; obtain ⟨rfl, rfl, rfl, rfl, rfl, rfl⟩ := H; have hY := db.out; have hZ := b3.out; obtain ⟨h0, h1, h2, h3, h4, h5⟩ := c6e bb; obtain ⟨h6, h7, h8, h9, ia, ib⟩ := z6_ bb
      go_wp2_with (first | ((with_reducible refine gate_callee (f := 70) rfl ?_); refine goesM (some 34) rfl rfl Try.func70 (by kernel_rfl) rfl #[.int .i64 a0_0, .int .i64 (wrap64 (a0_0 + a1))] rfl ?_; (with_reducible refine (spec_Wide.calls kj2 a0_0 (wrap64 (a0_0 + a1)) bZ b0 _ A27.out).mono ?_); rintro e ko ⟨rfl, hb⟩; refine ⟨_, rfl, ?_⟩; replace bb := nblk bb hb; replace bg := nblk bg hb; replace HB := nbs HB hb; (try clear hb); obtain ⟨kp, kr, ks, kt, ku, kv⟩ := c6e bb; obtain ⟨kw, kx, ky, kz, kA, kB⟩ := z6_ bb; obtain ⟨kC, kD, kE, kF, kG, kH⟩ := c6e bg; obtain ⟨kI, kJ, kK, kL, kM, kN⟩ := z6_ bg))
      refine bodyPost_ret (results_cell_row rfl _ _ dl 27 #[.int .i64 a0_0, .bool a0_1, .int .i64 bZ, .int .i64 b0, .int .i64 a0_4, .int .i64 a0_5] (0, 0) _ rfl (p6 bg (k2_ b3.out (nb bg))) Try.underlying27 rfl (by kernel_rfl)) rfl ?_; exact ⟨er_, nbe HB⟩

/-! ### spec_Point: function 18 -/
def spec_Point.f (k : Nat) (a0_0 : Int) (a0_1 : Bool) (a0_2 : Int) (a0_3 : Int) (a0_4 : Int) (a0_5 : Int) (a1 : Int) : Option (Int × Bool × Int × Int × Int × Int) := (spec_l4Open.f k a0_0 a0_1 a0_2 a0_3 a0_4 a0_5).bind fun df => (if df = true then (some (Go.bits .and .i64 a1 65535, a0_1, a0_2, a0_3, a0_4, a0_5)) else ((spec_Plain.f a1).bind fun bm => (some (bm.1, bm.2.1, bm.2.2.1, bm.2.2.2.1, bm.2.2.2.2.1, bm.2.2.2.2.2))))
theorem spec_Point.mono : ∀ a0 a1 a2 a3 a4 a5 a6 k, LeO (spec_Point.f k a0 a1 a2 a3 a4 a5 a6) (spec_Point.f (k + 1) a0 a1 a2 a3 a4 a5 a6) := by
 intro a0 a1 a2 a3 a4 a5 a6 k
 unfold spec_Point.f
 repeat' first
   | (with_reducible exact spec_l4Open.mono _ _ _ _ _ _ _)
   | (with_reducible exact LeO.refl _)
   | (with_reducible exact LeO.none _)
   | (with_reducible refine LeO.ite ?_ ?_)
   | (with_reducible refine LeO.bind ?_ (fun _ => ?_))
   | exact spec_l4Open.mono _ _ _ _ _ _ _
   | exact LeO.none _
   | refine LeO.ite ?_ ?_
   | refine LeO.bind ?_ (fun _ => ?_)
set_option maxHeartbeats 8000000 in
set_option maxRecDepth 100000 in
theorem spec_Point.calls (k : Nat) (a0_0 : Int) (a0_1 : Bool) (a0_2 : Int) (a0_3 : Int) (a0_4 : Int) (a0_5 : Int) (a1 : Int) (r1 : Int) (r2 : Bool) (r3 : Int) (r4 : Int) (r5 : Int) (r6 : Int) (w : World) (h : spec_Point.f k a0_0 a0_1 a0_2 a0_3 a0_4 a0_5 a1 = some (r1, r2, r3, r4, r5, r6)) :
  Calls Try.prog 18 #[.agg #[.int .i64 a0_0, .bool a0_1, .int .i64 a0_2, .int .i64 a0_3, .int .i64 a0_4, .int .i64 a0_5], .int .i64 a1] w fun e w' => e = .returned (.agg #[.int .i64 r1, .bool r2, .int .i64 r3, .int .i64 r4, .int .i64 r5, .int .i64 r6]) ∧ Below w.heap.size w w' := by
 have hu27 := Try.underlying27; have HB := Aside0.mk (Below.refl w.heap.size w); have H : ((spec_l4Open.f k a0_0 a0_1 a0_2 a0_3 a0_4 a0_5).bind fun df => (if df = true then (some (Go.bits .and .i64 a1 65535, a0_1, a0_2, a0_3, a0_4, a0_5)) else ((spec_Plain.f a1).bind fun bm => (some (bm.1, bm.2.1, bm.2.2.1, bm.2.2.2.1, bm.2.2.2.2.1, bm.2.2.2.2.2))))) = some (r1, r2, r3, r4, r5, r6) := h; clear h; replace H := Option.bind_eq_some_iff.mp H; obtain ⟨df, A30, H⟩ := H; replace H : (if df = true then (some (Go.bits .and .i64 a1 65535, a0_1, a0_2, a0_3, a0_4, a0_5)) else ((spec_Plain.f a1).bind fun bm => (some (bm.1, bm.2.1, bm.2.2.1, bm.2.2.2.1, bm.2.2.2.2.1, bm.2.2.2.2.2)))) = some (r1, r2, r3, r4, r5, r6) := H; have A3 := Aside0.mk A30; clear A30
 by_cases c4 : df = true
 ·subst c4
  have H1 : (some (Go.bits .and .i64 a1 65535, a0_1, a0_2, a0_3, a0_4, a0_5)) = some (r1, r2, r3, r4, r5, r6) := by rw [if_pos rfl] at H; exact H
  clear H; have H := H1; clear H1; simp only [Option.some.injEq, Prod.mk.injEq] at H; obtain ⟨rfl, rfl, rfl, rfl, rfl, rfl⟩ := H
  go_enter Try.func18, Try.ntmps18
  go_wp2_with (first | ((with_reducible refine gate_dst (N := 2) rfl ?_); refine bxe 2 #[.int .i64 a0_0, .bool a0_1, .int .i64 a0_2, .int .i64 a0_3, .int .i64 a0_4, .int .i64 a0_5] 27 ?_; intro ic hg w5 hbox hb; have br := hbox; have ig := nge HB hg; have ih := nge HB hg; replace HB := nbs HB hb; clear hb hbox hg) | ((with_reducible refine gate_dst (N := 4) rfl ?_); refine bxe 4 #[.int .i64 0, .bool false, .int .i64 0, .int .i64 0, .int .i64 0, .int .i64 0] 27 ?_; intro ec hg w6 hbox hb; have bD := hbox; have ii := nge HB hg; have ij := nge HB hg; have ed := nlt br hg; have dM := ngt br hg; replace br := nblk br hb; replace HB := nbs HB hb; clear hb hbox hg; have kO := ed.out; have kP := dM.out; obtain ⟨ik, il, im, io, ip, iq⟩ := c6e br; obtain ⟨ir, iu, iv, iw, ix, iy⟩ := z6_ br) | ((with_reducible refine gate_callee (f := 67) rfl ?_); refine goesM (some 6) rfl rfl Try.func67 (by kernel_rfl) rfl #[.agg #[.int .i64 a0_0, .bool a0_1, .int .i64 a0_2, .int .i64 a0_3, .int .i64 a0_4, .int .i64 a0_5]] rfl ?_; (with_reducible refine (spec_l4Open.calls k a0_0 a0_1 a0_2 a0_3 a0_4 a0_5 true _ A3.out).mono ?_); rintro e w9 ⟨rfl, hb⟩; refine ⟨_, rfl, ?_⟩; replace br := nblk br hb; replace bD := nblk bD hb; replace HB := nbs HB hb; (try clear hb); obtain ⟨kQ, kR, kS, kT, kU, kV⟩ := c6e br; obtain ⟨kW, kX, kY, kZ, k0, k1⟩ := z6_ br; obtain ⟨k2, k3, k4, k5, k6, k7⟩ := c6e bD; obtain ⟨k8, k9, ma, mb, mc, md⟩ := z6_ bD))
  refine bodyPost_ret (results_cell_row rfl _ _ ec 27 #[.int .i64 (Go.bits .and .i64 a1 65535), .bool a0_1, .int .i64 a0_2, .int .i64 a0_3, .int .i64 a0_4, .int .i64 a0_5] (0, 0) _ rfl (p6 bD (k1_ dM.out (nb bD))) Try.underlying27 rfl (by kernel_rfl)) rfl ?_; exact ⟨er_, nbe HB⟩
 ·replace c4 := Bool.eq_false_iff.mpr c4
  subst c4; have H1 : ((spec_Plain.f a1).bind fun bm => (some (bm.1, bm.2.1, bm.2.2.1, bm.2.2.2.1, bm.2.2.2.2.1, bm.2.2.2.2.2))) = some (r1, r2, r3, r4, r5, r6) := by rw [if_neg (show ¬ (false = true) by decide)] at H; exact H
  clear H; have H := H1; clear H1; replace H := Option.bind_eq_some_iff.mp H; obtain ⟨⟨ee, ef, eg, eh, ei, ej⟩, A120, H⟩ := H; replace H : (some (ee, ef, eg, eh, ei, ej)) = some (r1, r2, r3, r4, r5, r6) := H; have A12 := Aside0.mk A120; clear A120; simp only [Option.some.injEq, Prod.mk.injEq] at H; obtain ⟨rfl, rfl, rfl, rfl, rfl, rfl⟩ := H
  go_enter Try.func18, Try.ntmps18
  go_wp2_with (first | ((with_reducible refine gate_dst (N := 2) rfl ?_); refine bxe 2 #[.int .i64 a0_0, .bool a0_1, .int .i64 a0_2, .int .i64 a0_3, .int .i64 a0_4, .int .i64 a0_5] 27 ?_; intro ic hg dT hbox hb; have br := hbox; have ig := nge HB hg; have ih := nge HB hg; replace HB := nbs HB hb; clear hb hbox hg) | ((with_reducible refine gate_dst (N := 4) rfl ?_); refine bxe 4 #[.int .i64 0, .bool false, .int .i64 0, .int .i64 0, .int .i64 0, .int .i64 0] 27 ?_; intro ec hg dN hbox hb; have bD := hbox; have ii := nge HB hg; have ij := nge HB hg; have ed := nlt br hg; have dM := ngt br hg; replace br := nblk br hb; replace HB := nbs HB hb; clear hb hbox hg; have g8 := ed.out; have g9 := dM.out; obtain ⟨e8, e9, ga, gb, gc, gd⟩ := c6e br; obtain ⟨gf, gg, gh, gi, gj, gl⟩ := z6_ br) | ((with_reducible refine gate_callee (f := 67) rfl ?_); refine goesM (some 6) rfl rfl Try.func67 (by kernel_rfl) rfl #[.agg #[.int .i64 a0_0, .bool a0_1, .int .i64 a0_2, .int .i64 a0_3, .int .i64 a0_4, .int .i64 a0_5]] rfl ?_; (with_reducible refine (spec_l4Open.calls k a0_0 a0_1 a0_2 a0_3 a0_4 a0_5 false _ A3.out).mono ?_); rintro e ha ⟨rfl, hb⟩; refine ⟨_, rfl, ?_⟩; replace br := nblk br hb; replace bD := nblk bD hb; replace HB := nbs HB hb; (try clear hb)) | ((with_reducible refine gate_callee (f := 45) rfl ?_); refine goesM (some 9) rfl rfl Try.func45 (by kernel_rfl) rfl #[.int .i64 a1] rfl ?_; (with_reducible refine (spec_Plain.calls a1 ee ef eg eh ei ej _ A12.out).mono ?_); rintro e iz ⟨rfl, hb⟩; refine ⟨_, rfl, ?_⟩; replace br := nblk br hb; replace bD := nblk bD hb; replace HB := nbs HB hb; (try clear hb); obtain ⟨dA, dB, dC, dD, dE, dF⟩ := c6e bD; obtain ⟨dG, dH, dI, dJ, dK, dL⟩ := z6_ bD))
  refine bodyPost_ret (results_cell_row rfl _ _ ec 27 #[.int .i64 ee, .bool ef, .int .i64 eg, .int .i64 eh, .int .i64 ei, .int .i64 ej] (0, 0) _ rfl (q6 bD) Try.underlying27 rfl (by kernel_rfl)) rfl ?_; exact ⟨er_, nbe HB⟩

/-! ### spec_l4DrawBy: function 73 -/
def spec_l4DrawBy.f (k : Nat) (s0_0 : List Int) (s0_1 : Int) (s0_2 : Int) : Option (Int × Bool × Int × Int × Int × Int × Int × Int) := (spec_l1Once.f s0_0 s0_1 s0_2 4).bind fun bU => (if bU.1 = true then ((spec_l3Draw.f k s0_0 bU.2.1 bU.2.2).bind fun bh => (some (bh.1, bh.2.1, bh.2.2.1, bh.2.2.2.1, bh.2.2.2.2.1, bh.2.2.2.2.2.1, bh.2.2.2.2.2.2.1, bh.2.2.2.2.2.2.2))) else ((spec_l1Below.f s0_0 bU.2.1 bU.2.2 7).bind fun bx => ((spec_KeyWord.f k 0 8 32 0 (wrap64 (1 + bx.1))).bind fun bi => (some (bi.1, bi.2.1, bi.2.2.1, bi.2.2.2.1, bi.2.2.2.2.1, bi.2.2.2.2.2, bx.2.1, bx.2.2)))))
theorem spec_l4DrawBy.mono : ∀ a0 a1 a2 k, LeO (spec_l4DrawBy.f k a0 a1 a2) (spec_l4DrawBy.f (k + 1) a0 a1 a2) := by
 intro a0 a1 a2 k
 unfold spec_l4DrawBy.f
 repeat' first
   | (with_reducible exact spec_KeyWord.mono _ _ _ _ _ _)
   | (with_reducible exact spec_l3Draw.mono _ _ _ _)
   | (with_reducible exact LeO.refl _)
   | (with_reducible exact LeO.none _)
   | (with_reducible refine LeO.ite ?_ ?_)
   | (with_reducible refine LeO.bind ?_ (fun _ => ?_))
   | exact spec_KeyWord.mono _ _ _ _ _ _
   | exact spec_l3Draw.mono _ _ _ _
   | exact LeO.none _
   | refine LeO.ite ?_ ?_
   | refine LeO.bind ?_ (fun _ => ?_)
set_option maxHeartbeats 8000000 in
set_option maxRecDepth 100000 in
theorem spec_l4DrawBy.calls (k : Nat) (g : Nat) (s0_0 : List Int) (s0_1 : Int) (s0_2 : Int) (r1 : Int) (r2 : Bool) (r3 : Int) (r4 : Int) (r5 : Int) (r6 : Int) (r7 : Int) (r8 : Int) (w0 w : World) (hI : IsS90 w0 w g s0_0 s0_1 s0_2) (hB : Below w0.heap.size w0 w) (h : spec_l4DrawBy.f k s0_0 s0_1 s0_2 = some (r1, r2, r3, r4, r5, r6, r7, r8)) :
  Calls Try.prog 73 #[.pointer (some ⟨g, 0, none⟩)] w fun e w' => e = .returned (.agg #[.int .i64 r1, .bool r2, .int .i64 r3, .int .i64 r4, .int .i64 r5, .int .i64 r6]) ∧ IsS90 w0 w' g s0_0 r7 r8 ∧ Below w0.heap.size w0 w' ∧ KeepBut w w' g none := by
 have hu27 := Try.underlying27; have hu25 := Try.underlying25; have HI0 := Aside0.mk hI; have HK := Aside0.mk (KeepBut.refl w g none); have HL := Aside0.mk hB.size; clear hI; have HW0 := Aside0.mk hB.size; have HB := Aside0.mk hB; clear hB; have H : ((spec_l1Once.f s0_0 s0_1 s0_2 4).bind fun bU => (if bU.1 = true then ((spec_l3Draw.f k s0_0 bU.2.1 bU.2.2).bind fun bh => (some (bh.1, bh.2.1, bh.2.2.1, bh.2.2.2.1, bh.2.2.2.2.1, bh.2.2.2.2.2.1, bh.2.2.2.2.2.2.1, bh.2.2.2.2.2.2.2))) else ((spec_l1Below.f s0_0 bU.2.1 bU.2.2 7).bind fun bx => ((spec_KeyWord.f k 0 8 32 0 (wrap64 (1 + bx.1))).bind fun bi => (some (bi.1, bi.2.1, bi.2.2.1, bi.2.2.2.1, bi.2.2.2.2.1, bi.2.2.2.2.2, bx.2.1, bx.2.2)))))) = some (r1, r2, r3, r4, r5, r6, r7, r8) := h; clear h; replace H := Option.bind_eq_some_iff.mp H; obtain ⟨⟨gm, b4, b5⟩, A20, H⟩ := H; replace H : (if gm = true then ((spec_l3Draw.f k s0_0 b4 b5).bind fun bh => (some (bh.1, bh.2.1, bh.2.2.1, bh.2.2.2.1, bh.2.2.2.2.1, bh.2.2.2.2.2.1, bh.2.2.2.2.2.2.1, bh.2.2.2.2.2.2.2))) else ((spec_l1Below.f s0_0 b4 b5 7).bind fun bx => ((spec_KeyWord.f k 0 8 32 0 (wrap64 (1 + bx.1))).bind fun bi => (some (bi.1, bi.2.1, bi.2.2.1, bi.2.2.2.1, bi.2.2.2.2.1, bi.2.2.2.2.2, bx.2.1, bx.2.2))))) = some (r1, r2, r3, r4, r5, r6, r7, r8) := H; have A2 := Aside0.mk A20; clear A20
 by_cases c3 : gm = true
 ·subst c3
  have H1 : ((spec_l3Draw.f k s0_0 b4 b5).bind fun bh => (some (bh.1, bh.2.1, bh.2.2.1, bh.2.2.2.1, bh.2.2.2.2.1, bh.2.2.2.2.2.1, bh.2.2.2.2.2.2.1, bh.2.2.2.2.2.2.2))) = some (r1, r2, r3, r4, r5, r6, r7, r8) := by rw [if_pos rfl] at H; exact H
  clear H; have H := H1; clear H1; replace H := Option.bind_eq_some_iff.mp H; obtain ⟨⟨ek, el, em, en, eo, ep, gn, gp⟩, A40, H⟩ := H; replace H : (some (ek, el, em, en, eo, ep, gn, gp)) = some (r1, r2, r3, r4, r5, r6, r7, r8) := H; have A4 := Aside0.mk A40; clear A40; simp only [Option.some.injEq, Prod.mk.injEq] at H; obtain ⟨rfl, rfl, rfl, rfl, rfl, rfl, rfl, rfl⟩ := H
  go_enter Try.func73, Try.ntmps73
  go_wp2_with (first | ((with_reducible refine gate_dst (N := 2) rfl ?_); refine bxe 2 #[.int .i64 0, .bool false, .int .i64 0, .int .i64 0, .int .i64 0, .int .i64 0] 27 ?_; intro bv hg w5 hbox hb; have bz := Aside0.mk (IsS90.below (IsS90.n) hb); have bA := Aside0.mk (KeepBut.trans (nK HK) (KeepBut.of_below hb g none) (.inl rfl)); have bB := Aside0.mk (below_step (IsS90.nb) hb); have bC := hbox; have bS := Aside0.mk ((by rw [hg]; exact (keep_size (w := w) (g := g) (row := none) (nK HK)) : w.heap.size ≤ bv)); have b6 := Aside0.mk ((Nat.le_trans HW0.out (by rw [hg]; exact (keep_size (w := w) (g := g) (row := none) (nK HK)) : w.heap.size ≤ bv) : w0.heap.size ≤ bv)); have b7 := Aside0.mk ((by rw [hg]; exact Nat.ne_of_lt (IsS90.lt (show IsS90 w0 _ g s0_0 s0_1 s0_2 from IsS90.n)) : g ≠ bv)); have b8 := Aside0.mk ((by rw [hg]; exact Nat.ne_of_gt (IsS90.lt (show IsS90 w0 _ g s0_0 s0_1 s0_2 from IsS90.n)) : bv ≠ g)); clear HI0 HK HB; have HI0 := bz; have HK := bA; have HB := bB; have bu := bC; have iA := bS; have iB := b6; have er := b7; have dc := b8; clear bz bA bB bC bS b6 b7 b8; clear hb hbox hg) | ((with_reducible refine gate_callee (f := 75) rfl ?_); refine goesM (some 4) rfl rfl Try.func75 (by kernel_rfl) rfl #[.pointer (some ⟨g, 0, none⟩), .int .i64 4] rfl ?_; (with_reducible refine (spec_l1Once.calls g s0_0 s0_1 s0_2 4 true b4 b5 w0 _ ?side1 ?side2 A2.out).mono ?_); (case side1 => exact IsS90.n); (case side2 => exact IsS90.nb); rintro e w6 ⟨rfl, hi, hb, hk⟩; refine ⟨_, rfl, ?_⟩; replace bu := Aside0.mk (KeepBut.blk hk (g' := bv) (o := .cells #[.int .i64 0, .bool false, .int .i64 0, .int .i64 0, .int .i64 0, .int .i64 0] 27 (0, 0)) (nb bu) dc.out (by simp)); replace HK := Aside0.mk (KeepBut.trans (nK HK) hk (.inl rfl)); replace HB := Aside0.mk (hb); replace HI0 := Aside0.mk (hi); (try clear hb)) | ((with_reducible refine gate_callee (f := 72) rfl ?_); refine goesM (some 6) rfl rfl Try.func72 (by kernel_rfl) rfl #[.pointer (some ⟨g, 0, none⟩)] rfl ?_; (with_reducible refine (spec_l3Draw.calls k g s0_0 b4 b5 ek el em en eo ep gn gp w0 _ ?side1 ?side2 A4.out).mono ?_); (case side1 => exact IsS90.n); (case side2 => exact IsS90.nb); rintro e w7 ⟨rfl, hi, hb, hk⟩; refine ⟨_, rfl, ?_⟩; replace bu := Aside0.mk (KeepBut.blk hk (g' := bv) (o := .cells #[.int .i64 0, .bool false, .int .i64 0, .int .i64 0, .int .i64 0, .int .i64 0] 27 (0, 0)) (nb bu) dc.out (by simp)); replace HK := Aside0.mk (KeepBut.trans (nK HK) hk (.inl rfl)); replace HB := Aside0.mk (hb); replace HI0 := Aside0.mk (hi); (try clear hb); have mf := dc.out; have mg := er.out; obtain ⟨mh, mi, mj, ml, mm, mn⟩ := c6e bu; obtain ⟨mo, mq, mr, ms, mt, mu⟩ := z6_ bu))
  refine bodyPost_ret (results_cell_row rfl _ _ bv 27 #[.int .i64 ek, .bool el, .int .i64 em, .int .i64 en, .int .i64 eo, .int .i64 ep] (0, 0) _ rfl (q6 bu) Try.underlying27 rfl (by kernel_rfl)) rfl ?_; exact ⟨er_, IsS90.n, IsS90.nb, nK HK⟩
 ·replace c3 := Bool.eq_false_iff.mpr c3
  subst c3; have H1 : ((spec_l1Below.f s0_0 b4 b5 7).bind fun bx => ((spec_KeyWord.f k 0 8 32 0 (wrap64 (1 + bx.1))).bind fun bi => (some (bi.1, bi.2.1, bi.2.2.1, bi.2.2.2.1, bi.2.2.2.2.1, bi.2.2.2.2.2, bx.2.1, bx.2.2)))) = some (r1, r2, r3, r4, r5, r6, r7, r8) := by rw [if_neg (show ¬ (false = true) by decide)] at H; exact H
  clear H; have H := H1; clear H1; replace H := Option.bind_eq_some_iff.mp H; obtain ⟨⟨dO, es, et⟩, A100, H⟩ := H; replace H : ((spec_KeyWord.f k 0 8 32 0 (wrap64 (1 + dO))).bind fun bi => (some (bi.1, bi.2.1, bi.2.2.1, bi.2.2.2.1, bi.2.2.2.2.1, bi.2.2.2.2.2, es, et))) = some (r1, r2, r3, r4, r5, r6, r7, r8) := H; have A10 := Aside0.mk A100; clear A100; replace H := Option.bind_eq_some_iff.mp H; obtain ⟨⟨eu, ev, ew, ex, ey, ez⟩, A110, H⟩ := H; replace H : (some (eu, ev, ew, ex, ey, ez, es, et)) = some (r1, r2, r3, r4, r5, r6, r7, r8) := H; have A11 := Aside0.mk A110; clear A110; simp only [Option.some.injEq, Prod.mk.injEq] at H; obtain ⟨rfl, rfl, rfl, rfl, rfl, rfl, rfl, rfl⟩ := H
  go_enter Try.func73, Try.ntmps73
  go_wp2_with (first | ((with_reducible refine gate_dst (N := 2) rfl ?_); refine bxe 2 #[.int .i64 0, .bool false, .int .i64 0, .int .i64 0, .int .i64 0, .int .i64 0] 27 ?_; intro bv hg iC hbox hb; have bz := Aside0.mk (IsS90.below (IsS90.n) hb); have bA := Aside0.mk (KeepBut.trans (nK HK) (KeepBut.of_below hb g none) (.inl rfl)); have bB := Aside0.mk (below_step (IsS90.nb) hb); have bC := hbox; have bS := Aside0.mk ((by rw [hg]; exact (keep_size (w := w) (g := g) (row := none) (nK HK)) : w.heap.size ≤ bv)); have b6 := Aside0.mk ((Nat.le_trans HW0.out (by rw [hg]; exact (keep_size (w := w) (g := g) (row := none) (nK HK)) : w.heap.size ≤ bv) : w0.heap.size ≤ bv)); have b7 := Aside0.mk ((by rw [hg]; exact Nat.ne_of_lt (IsS90.lt (show IsS90 w0 _ g s0_0 s0_1 s0_2 from IsS90.n)) : g ≠ bv)); have b8 := Aside0.mk ((by rw [hg]; exact Nat.ne_of_gt (IsS90.lt (show IsS90 w0 _ g s0_0 s0_1 s0_2 from IsS90.n)) : bv ≠ g)); clear HI0 HK HB; have HI0 := bz; have HK := bA; have HB := bB; have bu := bC; have iA := bS; have iB := b6; have er := b7; have dc := b8; clear bz bA bB bC bS b6 b7 b8; clear hb hbox hg) | ((with_reducible refine gate_callee (f := 75) rfl ?_); refine goesM (some 4) rfl rfl Try.func75 (by kernel_rfl) rfl #[.pointer (some ⟨g, 0, none⟩), .int .i64 4] rfl ?_; (with_reducible refine (spec_l1Once.calls g s0_0 s0_1 s0_2 4 false b4 b5 w0 _ ?side1 ?side2 A2.out).mono ?_); (case side1 => exact IsS90.n); (case side2 => exact IsS90.nb); rintro e dT ⟨rfl, hi, hb, hk⟩; refine ⟨_, rfl, ?_⟩; replace bu := Aside0.mk (KeepBut.blk hk (g' := bv) (o := .cells #[.int .i64 0, .bool false, .int .i64 0, .int .i64 0, .int .i64 0, .int .i64 0] 27 (0, 0)) (nb bu) dc.out (by simp)); replace HK := Aside0.mk (KeepBut.trans (nK HK) hk (.inl rfl)); replace HB := Aside0.mk (hb); replace HI0 := Aside0.mk (hi); (try clear hb)) | ((with_reducible refine gate_callee (f := 86) rfl ?_); refine goesM (some 9) rfl rfl Try.func86 (by kernel_rfl) rfl #[.pointer (some ⟨g, 0, none⟩), .int .i64 7] rfl ?_; (with_reducible refine (spec_l1Below.calls g s0_0 b4 b5 7 dO es et w0 _ ?side1 ?side2 A10.out).mono ?_); (case side1 => exact IsS90.n); (case side2 => exact IsS90.nb); rintro e dN ⟨rfl, hi, hb, hk⟩; refine ⟨_, rfl, ?_⟩; replace bu := Aside0.mk (KeepBut.blk hk (g' := bv) (o := .cells #[.int .i64 0, .bool false, .int .i64 0, .int .i64 0, .int .i64 0, .int .i64 0] 27 (0, 0)) (nb bu) dc.out (by simp)); replace HK := Aside0.mk (KeepBut.trans (nK HK) hk (.inl rfl)); replace HB := Aside0.mk (hb); replace HI0 := Aside0.mk (hi); (try clear hb)) | ((with_reducible refine gate_callee (f := 47) rfl ?_); refine goesM (some 11) rfl rfl Try.func47 (by kernel_rfl) rfl #[.agg #[.int .i64 0, .int .i64 8, .int .i64 32, .int .i64 0], .int .i64 (wrap64 (1 + dO))] rfl ?_; (with_reducible refine (spec_KeyWord.calls k 0 8 32 0 (wrap64 (1 + dO)) eu ev ew ex ey ez _ A11.out).mono ?_); rintro e iD ⟨rfl, hb⟩; refine ⟨_, rfl, ?_⟩; have bz := Aside0.mk (IsS90.below (IsS90.n) hb); have bA := nblk bu hb; have bB := Aside0.mk (KeepBut.trans (nK HK) (KeepBut.of_below hb g none) (.inl rfl)); have bC := Aside0.mk (below_step (IsS90.nb) hb); clear HI0 bu HK HB; have HI0 := bz; have bu := bA; have HK := bB; have HB := bC; clear bz bA bB bC; (try clear hb); have mv := dc.out; have mw := er.out; obtain ⟨gq, gr, gs, gt, gu, gv⟩ := c6e bu; obtain ⟨gw, gx, gy, gz, gA, gB⟩ := z6_ bu))
  refine bodyPost_ret (results_cell_row rfl _ _ bv 27 #[.int .i64 eu, .bool ev, .int .i64 ew, .int .i64 ex, .int .i64 ey, .int .i64 ez] (0, 0) _ rfl (q6 bu) Try.underlying27 rfl (by kernel_rfl)) rfl ?_; exact ⟨er_, IsS90.n, IsS90.nb, nK HK⟩

/-! ### spec_DrawSealBy: function 19 -/
def spec_DrawSealBy.f (k : Nat) (l0 : List Int) : Option (Int × Bool × Int × Int × Int × Int × Int × Bool × Int × Int × Int × Int) := (spec_l1New.f k l0).bind fun b1 => ((spec_l3Draw.f k b1.1 b1.2.1 b1.2.2).bind fun bp => ((spec_l4DrawBy.f k b1.1 bp.2.2.2.2.2.2.1 bp.2.2.2.2.2.2.2).bind fun bn => (some (bp.1, bp.2.1, bp.2.2.1, bp.2.2.2.1, bp.2.2.2.2.1, bp.2.2.2.2.2.1, bn.1, bn.2.1, bn.2.2.1, bn.2.2.2.1, bn.2.2.2.2.1, bn.2.2.2.2.2.1))))
theorem spec_DrawSealBy.mono : ∀ a0 k, LeO (spec_DrawSealBy.f k a0) (spec_DrawSealBy.f (k + 1) a0) := by
 intro a0 k
 unfold spec_DrawSealBy.f
 repeat' first
   | (with_reducible exact spec_l1New.mono _ _)
   | (with_reducible exact spec_l3Draw.mono _ _ _ _)
   | (with_reducible exact spec_l4DrawBy.mono _ _ _ _)
   | (with_reducible exact LeO.refl _)
   | (with_reducible exact LeO.none _)
   | (with_reducible refine LeO.ite ?_ ?_)
   | (with_reducible refine LeO.bind ?_ (fun _ => ?_))
   | exact spec_l1New.mono _ _
   | exact spec_l3Draw.mono _ _ _ _
   | exact spec_l4DrawBy.mono _ _ _ _
   | exact LeO.none _
   | refine LeO.ite ?_ ?_
   | refine LeO.bind ?_ (fun _ => ?_)
set_option maxHeartbeats 8000000 in
set_option maxRecDepth 100000 in
theorem spec_DrawSealBy.calls (k : Nat) (A0 : Option Addr) (c0 : Nat) (l0 : List Int) (r1 : Int) (r2 : Bool) (r3 : Int) (r4 : Int) (r5 : Int) (r6 : Int) (r7 : Int) (r8 : Bool) (r9 : Int) (r10 : Int) (r11 : Int) (r12 : Int) (w : World) (hr0 : Kd.C (Kd.int .u8) w A0 l0.length l0) (hc0 : l0.length ≤ c0) (h : spec_DrawSealBy.f k l0 = some (r1, r2, r3, r4, r5, r6, r7, r8, r9, r10, r11, r12)) :
  Calls Try.prog 19 #[.slice A0 l0.length c0] w fun e w' => e = .returned (.tuple #[.agg #[.int .i64 r1, .bool r2, .int .i64 r3, .int .i64 r4, .int .i64 r5, .int .i64 r6], .agg #[.int .i64 r7, .bool r8, .int .i64 r9, .int .i64 r10, .int .i64 r11, .int .i64 r12]]) ∧ Below w.heap.size w w' := by
 have hu27 := Try.underlying27; have iE := Aside0.mk hr0; have iF := Aside0.mk hc0; clear hr0 hc0; have HB := Aside0.mk (Below.refl w.heap.size w); have H : ((spec_l1New.f k l0).bind fun b1 => ((spec_l3Draw.f k b1.1 b1.2.1 b1.2.2).bind fun bp => ((spec_l4DrawBy.f k b1.1 bp.2.2.2.2.2.2.1 bp.2.2.2.2.2.2.2).bind fun bn => (some (bp.1, bp.2.1, bp.2.2.1, bp.2.2.2.1, bp.2.2.2.2.1, bp.2.2.2.2.2.1, bn.1, bn.2.1, bn.2.2.1, bn.2.2.2.1, bn.2.2.2.2.1, bn.2.2.2.2.2.1))))) = some (r1, r2, r3, r4, r5, r6, r7, r8, r9, r10, r11, r12) := h; clear h; replace H := Option.bind_eq_some_iff.mp H; obtain ⟨⟨b2, eA, eB⟩, A20, H⟩ := H; replace H : ((spec_l3Draw.f k b2 eA eB).bind fun bp => ((spec_l4DrawBy.f k b2 bp.2.2.2.2.2.2.1 bp.2.2.2.2.2.2.2).bind fun bn => (some (bp.1, bp.2.1, bp.2.2.1, bp.2.2.2.1, bp.2.2.2.2.1, bp.2.2.2.2.2.1, bn.1, bn.2.1, bn.2.2.1, bn.2.2.2.1, bn.2.2.2.2.1, bn.2.2.2.2.2.1)))) = some (r1, r2, r3, r4, r5, r6, r7, r8, r9, r10, r11, r12) := H; have A2 := Aside0.mk A20; clear A20; replace H := Option.bind_eq_some_iff.mp H; obtain ⟨⟨bG, bH, bI, bJ, bK, bL, dg, dh⟩, A30, H⟩ := H; replace H : ((spec_l4DrawBy.f k b2 dg dh).bind fun bn => (some (bG, bH, bI, bJ, bK, bL, bn.1, bn.2.1, bn.2.2.1, bn.2.2.2.1, bn.2.2.2.2.1, bn.2.2.2.2.2.1))) = some (r1, r2, r3, r4, r5, r6, r7, r8, r9, r10, r11, r12) := H; have A3 := Aside0.mk A30; clear A30; replace H := Option.bind_eq_some_iff.mp H; obtain ⟨⟨eC, eD, eE, eF, eG, eH, iG, iH⟩, A40, H⟩ := H; replace H : (some (bG, bH, bI, bJ, bK, bL, eC, eD, eE, eF, eG, eH)) = some (r1, r2, r3, r4, r5, r6, r7, r8, r9, r10, r11, r12) := H; have A4 := Aside0.mk A40; clear A40; simp only [Option.some.injEq, Prod.mk.injEq] at H; obtain ⟨rfl, rfl, rfl, rfl, rfl, rfl, rfl, rfl, rfl, rfl, rfl, rfl⟩ := H
 go_enter Try.func19, Try.ntmps19
 try go_wp2_with (first | ((with_reducible refine gate_dst (N := 2) rfl ?_); refine bxe 2 #[.int .i64 0, .bool false, .int .i64 0, .int .i64 0, .int .i64 0, .int .i64 0] 27 ?_; intro bM hg w5 hbox hb; have bf := hbox; have mx := nge HB hg; have mz := nge HB hg; replace HB := nbs HB hb; clear hb hbox hg) | ((with_reducible refine gate_dst (N := 3) rfl ?_); refine bxe 3 #[.int .i64 0, .bool false, .int .i64 0, .int .i64 0, .int .i64 0, .int .i64 0] 27 ?_; intro bN hg w6 hbox hb; have bk := hbox; have mA := nge HB hg; have mB := nge HB hg; have bO := nlt bf hg; have bP := ngt bf hg; replace bf := nblk bf hb; replace HB := nbs HB hb; clear hb hbox hg) | ((with_reducible refine gate_callee (f := 71) rfl ?_); refine goesM (some 7) rfl rfl Try.func71 (by kernel_rfl) rfl #[.slice A0 l0.length c0] rfl ?_; (with_reducible refine (spec_l1New.calls k _ _ l0 b2 eA eB w _ ?side1 ?side2 ?side3 A2.out).mono ?_); (case side1 => exact nbe HB); (case side2 => exact iE.out); (case side3 => exact iF.out); rintro e w7 ⟨g496, rfl, hi, hb, hb2⟩; refine ⟨_, rfl, ?_⟩; have HI496 := Aside0.mk (hi); have mC := Aside0.mk (IsS90.ne_blk hi (blk_below (g := bM) (o := .cells #[.int .i64 0, .bool false, .int .i64 0, .int .i64 0, .int .i64 0, .int .i64 0] 27 (0, 0)) (nb bf) hb2) (by decide)); have gC := Aside0.mk (Ne.symm (IsS90.ne_blk hi (blk_below (g := bM) (o := .cells #[.int .i64 0, .bool false, .int .i64 0, .int .i64 0, .int .i64 0, .int .i64 0] 27 (0, 0)) (nb bf) hb2) (by decide))); have mD := Aside0.mk (IsS90.ne_blk hi (blk_below (g := bN) (o := .cells #[.int .i64 0, .bool false, .int .i64 0, .int .i64 0, .int .i64 0, .int .i64 0] 27 (0, 0)) (nb bk) hb2) (by decide)); have gD := Aside0.mk (Ne.symm (IsS90.ne_blk hi (blk_below (g := bN) (o := .cells #[.int .i64 0, .bool false, .int .i64 0, .int .i64 0, .int .i64 0, .int .i64 0] 27 (0, 0)) (nb bk) hb2) (by decide))); replace bf := Aside0.mk (blk_below (g := bM) (o := .cells #[.int .i64 0, .bool false, .int .i64 0, .int .i64 0, .int .i64 0, .int .i64 0] 27 (0, 0)) (nb bf) hb2); replace bk := Aside0.mk (blk_below (g := bN) (o := .cells #[.int .i64 0, .bool false, .int .i64 0, .int .i64 0, .int .i64 0, .int .i64 0] 27 (0, 0)) (nb bk) hb2); replace HB := Aside0.mk (hb); (try clear hb)) | ((with_reducible refine gate_callee (f := 72) rfl ?_); refine goesM (some 9) rfl rfl Try.func72 (by kernel_rfl) rfl #[.pointer (some ⟨g496, 0, none⟩)] rfl ?_; (with_reducible refine (spec_l3Draw.calls k g496 b2 eA eB bG bH bI bJ bK bL dg dh w _ ?side1 ?side2 A3.out).mono ?_); (case side1 => exact IsS90.n); (case side2 => exact IsS90.nb); rintro e w8 ⟨rfl, hi, hb, hk⟩; refine ⟨_, rfl, ?_⟩; replace bf := Aside0.mk (KeepBut.blk hk (g' := bM) (o := .cells #[.int .i64 0, .bool false, .int .i64 0, .int .i64 0, .int .i64 0, .int .i64 0] 27 (0, 0)) (nb bf) gC.out (by simp)); replace bk := Aside0.mk (KeepBut.blk hk (g' := bN) (o := .cells #[.int .i64 0, .bool false, .int .i64 0, .int .i64 0, .int .i64 0, .int .i64 0] 27 (0, 0)) (nb bk) gD.out (by simp)); replace HB := Aside0.mk (hb); replace HI496 := Aside0.mk (hi); (try clear hb)) | ((with_reducible refine gate_dst (N := 5) rfl ?_); refine bxe 5 #[.int .i64 0, .bool false, .int .i64 0, .int .i64 0, .int .i64 0, .int .i64 0] 27 ?_; intro bc hg w9 hbox hb; have bz := nblk bf hb; have bA := nblk bk hb; have bB := Aside0.mk (IsS90.below (IsS90.n) hb); have bC := Aside0.mk (below_step (IsS90.nb) hb); have bS := hbox; have b6 := Aside0.mk ((by rw [hg]; exact (below_size (IsS90.nb)) : w.heap.size ≤ bc)); have b7 := Aside0.mk ((by rw [hg]; exact (below_size (IsS90.nb)) : w.heap.size ≤ bc)); have b8 := nlt bf hg; have gE := ngt bf hg; have gF := nlt bk hg; have gG := ngt bk hg; have gH := Aside0.mk ((by rw [hg]; exact Nat.ne_of_lt (IsS90.lt (show IsS90 w _ g496 b2 dg dh from IsS90.n)) : g496 ≠ bc)); have gI := Aside0.mk ((by rw [hg]; exact Nat.ne_of_gt (IsS90.lt (show IsS90 w _ g496 b2 dg dh from IsS90.n)) : bc ≠ g496)); clear bf bk HI496 HB; have bf := bz; have bk := bA; have HI496 := bB; have HB := bC; have bT := bS; have mE := b6; have mF := b7; have b9 := b8; have bQ := gE; have da := gF; have bR := gG; have iI := gH; have gJ := gI; clear bz bA bB bC bS b6 b7 b8 gE gF gG gH gI; clear hb hbox hg; have iJ := bQ.out; have iK := b9.out; have eU := bR.out; have eV := da.out; have mG := gJ.out; have mH := iI.out; obtain ⟨iL, iM, iN, iO, iP, iQ⟩ := c6e bT; obtain ⟨iR, iS, iT, iU, iV, iW⟩ := z6_ bT))
 have bz : Aside0 (((((((w9.setCell ⟨bc, 0, none⟩ (.int .i64 bG)).setCell ⟨bc, 1, none⟩ (.bool bH)).setCell ⟨bc, 2, none⟩ (.int .i64 bI)).setCell ⟨bc, 3, none⟩ (.int .i64 bJ)).setCell ⟨bc, 4, none⟩ (.int .i64 bK)).setCell ⟨bc, 5, none⟩ (.int .i64 bL)).heap[bM]? = some (.cells #[.int .i64 0, .bool false, .int .i64 0, .int .i64 0, .int .i64 0, .int .i64 0] 27 (0, 0))) := ⟨k6_ b9.out (nb bf)⟩; have bA : Aside0 (((((((w9.setCell ⟨bc, 0, none⟩ (.int .i64 bG)).setCell ⟨bc, 1, none⟩ (.bool bH)).setCell ⟨bc, 2, none⟩ (.int .i64 bI)).setCell ⟨bc, 3, none⟩ (.int .i64 bJ)).setCell ⟨bc, 4, none⟩ (.int .i64 bK)).setCell ⟨bc, 5, none⟩ (.int .i64 bL)).heap[bN]? = some (.cells #[.int .i64 0, .bool false, .int .i64 0, .int .i64 0, .int .i64 0, .int .i64 0] 27 (0, 0))) := ⟨k6_ da.out (nb bk)⟩; have bB : Aside0 (((((((w9.setCell ⟨bc, 0, none⟩ (.int .i64 bG)).setCell ⟨bc, 1, none⟩ (.bool bH)).setCell ⟨bc, 2, none⟩ (.int .i64 bI)).setCell ⟨bc, 3, none⟩ (.int .i64 bJ)).setCell ⟨bc, 4, none⟩ (.int .i64 bK)).setCell ⟨bc, 5, none⟩ (.int .i64 bL)).heap[bc]? = some (.cells #[.int .i64 bG, .bool bH, .int .i64 bI, .int .i64 bJ, .int .i64 bK, .int .i64 bL] 27 (0, 0))) := ⟨q6 bT⟩; have bC : Aside0 (IsS90 w ((((((w9.setCell ⟨bc, 0, none⟩ (.int .i64 bG)).setCell ⟨bc, 1, none⟩ (.bool bH)).setCell ⟨bc, 2, none⟩ (.int .i64 bI)).setCell ⟨bc, 3, none⟩ (.int .i64 bJ)).setCell ⟨bc, 4, none⟩ (.int .i64 bK)).setCell ⟨bc, 5, none⟩ (.int .i64 bL)) g496 b2 dg dh) := ⟨IsS90.n⟩; have bS : Aside0 (Below w.heap.size w ((((((w9.setCell ⟨bc, 0, none⟩ (.int .i64 bG)).setCell ⟨bc, 1, none⟩ (.bool bH)).setCell ⟨bc, 2, none⟩ (.int .i64 bI)).setCell ⟨bc, 3, none⟩ (.int .i64 bJ)).setCell ⟨bc, 4, none⟩ (.int .i64 bK)).setCell ⟨bc, 5, none⟩ (.int .i64 bL))) := ⟨IsS90.nb⟩; (try clear bf); (try clear bk); (try clear bT); (try clear HI496); (try clear HB); generalize ((((((w9.setCell ⟨bc, 0, none⟩ (.int .i64 bG)).setCell ⟨bc, 1, none⟩ (.bool bH)).setCell ⟨bc, 2, none⟩ (.int .i64 bI)).setCell ⟨bc, 3, none⟩ (.int .i64 bJ)).setCell ⟨bc, 4, none⟩ (.int .i64 bK)).setCell ⟨bc, 5, none⟩ (.int .i64 bL)) = dN at bz bA bB bC bS ⊢; have bf := bz; have bk := bA; have bT := bB; have HI496 := bC; have HB := bS; clear bz bA bB bC bS; replace bf := Aside0.mk (blk_drew bf.out); replace bk := Aside0.mk (blk_drew bk.out); replace bT := Aside0.mk (blk_drew bT.out); replace HI496 := Aside0.mk (IsS90.drew HI496.out); replace HB := Aside0.mk (below_drew1 HB.out); refine start_ (n := 5) (S := fun w' => w'.cell? ⟨bc, 0, none⟩ = some (.int .i64 bG) ∧ w'.cell? ⟨bc, 1, none⟩ = some (.bool bH) ∧ w'.cell? ⟨bc, 2, none⟩ = some (.int .i64 bI) ∧ w'.cell? ⟨bc, 3, none⟩ = some (.int .i64 bJ) ∧ w'.cell? ⟨bc, 4, none⟩ = some (.int .i64 bK) ∧ w'.cell? ⟨bc, 5, none⟩ = some (.int .i64 bL)) (ds := []) #[false, false, false, false, false] (by kernel_rfl) rfl rfl (c6e bT) (fun hHeld => ?_); generalize dN.drew = iD at bf bk bT HI496 HB hHeld ⊢; refine rPk 1 11 #[false, true, false, false, false] ?_; refine rTk hHeld 0 10 #[true, true, false, false, false] ?_; refine one_ (i := 2) (N := some 12) #[true, true, true, false, false] rfl rfl (by kernel_rfl) (by decide) (fun K hK => ?_); refine goesR Try.func73 (by kernel_rfl) rfl #[.pointer (some ⟨g496, 0, none⟩)] (by rfl) rfl rfl ?_; (with_reducible refine (spec_l4DrawBy.calls k g496 b2 dg dh eC eD eE eF eG eH iG iH w _ ?side1 ?side2 A4.out).mono ?_); (case side1 => exact IsS90.n); (case side2 => exact IsS90.nb); rintro e bE ⟨rfl, hi, hb, hk⟩; refine ⟨_, rfl, ?_⟩; replace bf := Aside0.mk (KeepBut.blk hk (g' := bM) (o := .cells #[.int .i64 0, .bool false, .int .i64 0, .int .i64 0, .int .i64 0, .int .i64 0] 27 (0, 0)) (nb bf) gC.out (by simp)); replace bk := Aside0.mk (KeepBut.blk hk (g' := bN) (o := .cells #[.int .i64 0, .bool false, .int .i64 0, .int .i64 0, .int .i64 0, .int .i64 0] 27 (0, 0)) (nb bk) gD.out (by simp)); replace bT := Aside0.mk (KeepBut.blk hk (g' := bc) (o := .cells #[.int .i64 bG, .bool bH, .int .i64 bI, .int .i64 bJ, .int .i64 bK, .int .i64 bL] 27 (0, 0)) (nb bT) gJ.out (by simp)); replace HB := Aside0.mk (hb); replace HI496 := Aside0.mk (hi); (try clear hb); refine hK.out _ _ (c6e bT) (fun hHeld => ?_); clear hK K; refine norm_ (a' := ?_) ?_ ?_; rotate_left
 ·show Act.put _ (some 12) _ = _
  simp only [Act.put, List.setIfInBounds_toArray, List.set_cons_zero, List.set_cons_succ, i64_w, i32_w]; rfl
 refine one_ (i := 3) (N := none) #[true, true, true, true, false] rfl rfl (by kernel_rfl) (by decide) (fun K hK => ?_); have hs17 : bE.cell? ⟨bM, 0, none⟩ = some (.int .i64 0) := (blk_cell bf.out 0).trans rfl; have hfs17 := blk_frozen bf.out 0; have hns17_1 := bP.out; have hns17_2 := bQ.out; have hms17_1 := bO.out; have hms17_2 := b9.out; have hs18 : bE.cell? ⟨bM, 1, none⟩ = some (.bool false) := (blk_cell bf.out 1).trans rfl; have hfs18 := blk_frozen bf.out 1; have hns18_1 := bP.out; have hns18_2 := bQ.out; have hms18_1 := bO.out; have hms18_2 := b9.out; have hs19 : bE.cell? ⟨bM, 2, none⟩ = some (.int .i64 0) := (blk_cell bf.out 2).trans rfl; have hfs19 := blk_frozen bf.out 2; have hns19_1 := bP.out; have hns19_2 := bQ.out; have hms19_1 := bO.out; have hms19_2 := b9.out; have hs20 : bE.cell? ⟨bM, 3, none⟩ = some (.int .i64 0) := (blk_cell bf.out 3).trans rfl; have hfs20 := blk_frozen bf.out 3; have hns20_1 := bP.out; have hns20_2 := bQ.out; have hms20_1 := bO.out; have hms20_2 := b9.out; have hs21 : bE.cell? ⟨bM, 4, none⟩ = some (.int .i64 0) := (blk_cell bf.out 4).trans rfl; have hfs21 := blk_frozen bf.out 4; have hns21_1 := bP.out; have hns21_2 := bQ.out; have hms21_1 := bO.out; have hms21_2 := b9.out; have hs22 : bE.cell? ⟨bM, 5, none⟩ = some (.int .i64 0) := (blk_cell bf.out 5).trans rfl; have hfs22 := blk_frozen bf.out 5; have hns22_1 := bP.out; have hns22_2 := bQ.out; have hms22_1 := bO.out; have hms22_2 := b9.out; refine skip_ (w1 := ?_) (by rfl) rfl ?_ ?_; rotate_left
 ·go_simp
  rfl
 refine hK.out _ _ ⟨(g6 bQ.out hHeld.1), (g6 bQ.out hHeld.2.1), (g6 bQ.out hHeld.2.2.1), (g6 bQ.out hHeld.2.2.2.1), (g6 bQ.out hHeld.2.2.2.2.1), (g6 bQ.out hHeld.2.2.2.2.2)⟩ (fun hHeld => ?_); clear hK K; refine one_ (i := 4) (N := none) #[true, true, true, true, true] rfl rfl (by kernel_rfl) (by decide) (fun K hK => ?_); have hs23 : bE.cell? ⟨bN, 0, none⟩ = some (.int .i64 0) := (blk_cell bk.out 0).trans rfl; have hfs23 := blk_frozen bk.out 0; have hns23_0 := bO.out; have hns23_2 := bR.out; have hms23_0 := bP.out; have hms23_2 := da.out; have hs24 : bE.cell? ⟨bN, 1, none⟩ = some (.bool false) := (blk_cell bk.out 1).trans rfl; have hfs24 := blk_frozen bk.out 1; have hns24_0 := bO.out; have hns24_2 := bR.out; have hms24_0 := bP.out; have hms24_2 := da.out; have hs25 : bE.cell? ⟨bN, 2, none⟩ = some (.int .i64 0) := (blk_cell bk.out 2).trans rfl; have hfs25 := blk_frozen bk.out 2; have hns25_0 := bO.out; have hns25_2 := bR.out; have hms25_0 := bP.out; have hms25_2 := da.out; have hs26 : bE.cell? ⟨bN, 3, none⟩ = some (.int .i64 0) := (blk_cell bk.out 3).trans rfl; have hfs26 := blk_frozen bk.out 3; have hns26_0 := bO.out; have hns26_2 := bR.out; have hms26_0 := bP.out; have hms26_2 := da.out; have hs27 : bE.cell? ⟨bN, 4, none⟩ = some (.int .i64 0) := (blk_cell bk.out 4).trans rfl; have hfs27 := blk_frozen bk.out 4; have hns27_0 := bO.out; have hns27_2 := bR.out; have hms27_0 := bP.out; have hms27_2 := da.out; have hs28 : bE.cell? ⟨bN, 5, none⟩ = some (.int .i64 0) := (blk_cell bk.out 5).trans rfl; have hfs28 := blk_frozen bk.out 5; have hns28_0 := bO.out; have hns28_2 := bR.out; have hms28_0 := bP.out; have hms28_2 := da.out; refine skip_ (w1 := ?_) (by rfl) rfl ?_ ?_; rotate_left
 ·go_simp
  rfl
 refine hK.out _ _ ⟨(g6 bR.out hHeld.1), (g6 bR.out hHeld.2.1), (g6 bR.out hHeld.2.2.1), (g6 bR.out hHeld.2.2.2.1), (g6 bR.out hHeld.2.2.2.2.1), (g6 bR.out hHeld.2.2.2.2.2)⟩ (fun hHeld => ?_); clear hK K; refine done_ (by kernel_rfl) ?_
 try go_wp2
 refine bodyPost_ret (results_cc rfl _ _ bM bN 27 27 #[.int .i64 bG, .bool bH, .int .i64 bI, .int .i64 bJ, .int .i64 bK, .int .i64 bL] #[.int .i64 eC, .bool eD, .int .i64 eE, .int .i64 eF, .int .i64 eG, .int .i64 eH] (0, 0) (0, 0) _ _ rfl (k6_ bO.out (q6 bf)) Try.underlying27 rfl (by kernel_rfl) rfl (p6 bk (k6_ bP.out (nb bk))) Try.underlying27 rfl (by kernel_rfl)) rfl ?_; exact ⟨er_, IsS90.nb⟩

/-! ### impl_seals: function 74 -/
def impl_seals.f (k : Nat) (a0_0 : Int) (a0_1 : Bool) (a0_2 : Int) (a0_3 : Int) (a0_4 : Int) (a0_5 : Int) : Option (Bool) := (impl_open.f k a0_0 a0_1 a0_2 a0_3 a0_4 a0_5).bind fun di => (if di = true then (if (Go.bits .and .i64 a0_4 32) = 0 then (some false) else (if a0_0 ≥ a0_2 then (if a0_0 < a0_3 then ((impl_in.f a0_0 1 7).bind fun bW => (some bW)) else (some false)) else (some false))) else (some false))
theorem impl_seals.mono : ∀ a0 a1 a2 a3 a4 a5 k, LeO (impl_seals.f k a0 a1 a2 a3 a4 a5) (impl_seals.f (k + 1) a0 a1 a2 a3 a4 a5) := by
 intro a0 a1 a2 a3 a4 a5 k
 unfold impl_seals.f
 repeat' first
   | (with_reducible exact impl_open.mono _ _ _ _ _ _ _)
   | (with_reducible exact LeO.refl _)
   | (with_reducible exact LeO.none _)
   | (with_reducible refine LeO.ite ?_ ?_)
   | (with_reducible refine LeO.bind ?_ (fun _ => ?_))
   | exact impl_open.mono _ _ _ _ _ _ _
   | exact LeO.none _
   | refine LeO.ite ?_ ?_
   | refine LeO.bind ?_ (fun _ => ?_)
set_option maxHeartbeats 8000000 in
set_option maxRecDepth 100000 in
theorem impl_seals.calls (k : Nat) (a0_0 : Int) (a0_1 : Bool) (a0_2 : Int) (a0_3 : Int) (a0_4 : Int) (a0_5 : Int) (r : Bool) (w : World) (h : impl_seals.f k a0_0 a0_1 a0_2 a0_3 a0_4 a0_5 = some r) :
  Calls Try.prog 74 #[.agg #[.int .i64 a0_0, .bool a0_1, .int .i64 a0_2, .int .i64 a0_3, .int .i64 a0_4, .int .i64 a0_5]] w fun e w' => e = .returned (.bool r) ∧ Below w.heap.size w w' := by
 have hu27 := Try.underlying27; have HB := Aside0.mk (Below.refl w.heap.size w); have H : ((impl_open.f k a0_0 a0_1 a0_2 a0_3 a0_4 a0_5).bind fun di => (if di = true then (if (Go.bits .and .i64 a0_4 32) = 0 then (some false) else (if a0_0 ≥ a0_2 then (if a0_0 < a0_3 then ((impl_in.f a0_0 1 7).bind fun bW => (some bW)) else (some false)) else (some false))) else (some false))) = some r := h; clear h; replace H := Option.bind_eq_some_iff.mp H; obtain ⟨di, A20, H⟩ := H; replace H : (if di = true then (if (Go.bits .and .i64 a0_4 32) = 0 then (some false) else (if a0_0 ≥ a0_2 then (if a0_0 < a0_3 then ((impl_in.f a0_0 1 7).bind fun bW => (some bW)) else (some false)) else (some false))) else (some false)) = some r := H; have A2 := Aside0.mk A20; clear A20
 by_cases c3 : di = true
 ·subst c3
  have H1 : (if (Go.bits .and .i64 a0_4 32) = 0 then (some false) else (if a0_0 ≥ a0_2 then (if a0_0 < a0_3 then ((impl_in.f a0_0 1 7).bind fun bW => (some bW)) else (some false)) else (some false))) = some r := by rw [if_pos rfl] at H; exact H
  clear H; have H := H1; clear H1
  by_cases c4 : (Go.bits .and .i64 a0_4 32) = 0
  ·rw [if_pos c4] at H
   have c4b0 : ((Go.bits .and .i64 a0_4 32) == 0) = true := beq_iff_eq.mpr c4; have c4b1 : ((Go.bits .and .i64 a0_4 32) != 0) = false := bne_eq_false_iff_eq.mpr c4; clear c4; obtain rfl := Option.some.inj H
   go_enter Try.func74, Try.ntmps74
   go_wp2_with (first | ((with_reducible refine gate_dst (N := 1) rfl ?_); refine bxe 1 #[.int .i64 a0_0, .bool a0_1, .int .i64 a0_2, .int .i64 a0_3, .int .i64 a0_4, .int .i64 a0_5] 27 ?_; intro dP hg w5 hbox hb; have bl := hbox; have dQ := nge HB hg; have dR := nge HB hg; replace HB := nbs HB hb; clear hb hbox hg; obtain ⟨mI, mJ, mK, mL, mM, mN⟩ := c6e bl; obtain ⟨mO, mP, mQ, mR, mS, mT⟩ := z6_ bl) | ((with_reducible refine gate_callee (f := 64) rfl ?_); refine goesM (some 4) rfl rfl Try.func64 (by kernel_rfl) rfl #[.agg #[.int .i64 a0_0, .bool a0_1, .int .i64 a0_2, .int .i64 a0_3, .int .i64 a0_4, .int .i64 a0_5]] rfl ?_; (with_reducible refine (impl_open.calls k a0_0 a0_1 a0_2 a0_3 a0_4 a0_5 true _ A2.out).mono ?_); rintro e w7 ⟨rfl, hb⟩; refine ⟨_, rfl, ?_⟩; replace bl := nblk bl hb; replace HB := nbs HB hb; (try clear hb); obtain ⟨ik, il, im, io, ip, iq⟩ := c6e bl; obtain ⟨ir, iu, iv, iw, ix, iy⟩ := z6_ bl))
   go_ret
   exact ⟨er_, nbe HB⟩
  ·rw [if_neg c4] at H
   have c4b0 : ((Go.bits .and .i64 a0_4 32) == 0) = false := beq_eq_false_iff_ne.mpr c4; have c4b1 : ((Go.bits .and .i64 a0_4 32) != 0) = true := bne_iff_ne.mpr c4
   by_cases c9 : a0_0 ≥ a0_2
   ·rw [if_pos c9] at H
    have c9b0 : decide (a0_2 ≤ a0_0) = true := decide_eq_true c9; clear c9
    by_cases c10 : a0_0 < a0_3
    ·rw [if_pos c10] at H
     have c10b0 : decide (a0_0 < a0_3) = true := decide_eq_true c10; clear c10; replace H := Option.bind_eq_some_iff.mp H; obtain ⟨bW, A110, H⟩ := H; replace H : (some bW) = some r := H; have A11 := Aside0.mk A110; clear A110; obtain rfl := Option.some.inj H
     go_enter Try.func74, Try.ntmps74
     go_wp2_with (first | ((with_reducible refine gate_dst (N := 1) rfl ?_); refine bxe 1 #[.int .i64 a0_0, .bool a0_1, .int .i64 a0_2, .int .i64 a0_3, .int .i64 a0_4, .int .i64 a0_5] 27 ?_; intro dP hg iC hbox hb; have bl := hbox; have dQ := nge HB hg; have dR := nge HB hg; replace HB := nbs HB hb; clear hb hbox hg; obtain ⟨iL, iM, iN, iO, iP, iQ⟩ := c6e bl; obtain ⟨iR, iS, iT, iU, iV, iW⟩ := z6_ bl) | ((with_reducible refine gate_callee (f := 64) rfl ?_); refine goesM (some 4) rfl rfl Try.func64 (by kernel_rfl) rfl #[.agg #[.int .i64 a0_0, .bool a0_1, .int .i64 a0_2, .int .i64 a0_3, .int .i64 a0_4, .int .i64 a0_5]] rfl ?_; (with_reducible refine (impl_open.calls k a0_0 a0_1 a0_2 a0_3 a0_4 a0_5 true _ A2.out).mono ?_); rintro e dN ⟨rfl, hb⟩; refine ⟨_, rfl, ?_⟩; replace bl := nblk bl hb; replace HB := nbs HB hb; (try clear hb); obtain ⟨iX, iY, iZ, i0, i1, i2⟩ := c6e bl; obtain ⟨i3, i4, i5, i6, i7, i8⟩ := z6_ bl) | (go_at_call 77; (with_reducible refine (impl_in.calls a0_0 1 7 bW _ A11.out).mono ?_); rintro e w' ⟨rfl, ⟨nd, rfl⟩⟩))
     go_ret
     exact ⟨er_, nbe HB⟩
    ·rw [if_neg c10] at H
     have c10b0 : decide (a0_0 < a0_3) = false := decide_eq_false c10; clear c10; obtain rfl := Option.some.inj H
     go_enter Try.func74, Try.ntmps74
     go_wp2_with (first | ((with_reducible refine gate_dst (N := 1) rfl ?_); refine bxe 1 #[.int .i64 a0_0, .bool a0_1, .int .i64 a0_2, .int .i64 a0_3, .int .i64 a0_4, .int .i64 a0_5] 27 ?_; intro dP hg bE hbox hb; have bl := hbox; have dQ := nge HB hg; have dR := nge HB hg; replace HB := nbs HB hb; clear hb hbox hg; obtain ⟨gq, gr, gs, gt, gu, gv⟩ := c6e bl; obtain ⟨gw, gx, gy, gz, gA, gB⟩ := z6_ bl) | ((with_reducible refine gate_callee (f := 64) rfl ?_); refine goesM (some 4) rfl rfl Try.func64 (by kernel_rfl) rfl #[.agg #[.int .i64 a0_0, .bool a0_1, .int .i64 a0_2, .int .i64 a0_3, .int .i64 a0_4, .int .i64 a0_5]] rfl ?_; (with_reducible refine (impl_open.calls k a0_0 a0_1 a0_2 a0_3 a0_4 a0_5 true _ A2.out).mono ?_); rintro e iz ⟨rfl, hb⟩; refine ⟨_, rfl, ?_⟩; replace bl := nblk bl hb; replace HB := nbs HB hb; (try clear hb); obtain ⟨dA, dB, dC, dD, dE, dF⟩ := c6e bl; obtain ⟨dG, dH, dI, dJ, dK, dL⟩ := z6_ bl))
     go_ret
     exact ⟨er_, nbe HB⟩
   ·rw [if_neg c9] at H
    have c9b0 : decide (a0_2 ≤ a0_0) = false := decide_eq_false c9; clear c9; obtain rfl := Option.some.inj H
    go_enter Try.func74, Try.ntmps74
    go_wp2_with (first | ((with_reducible refine gate_dst (N := 1) rfl ?_); refine bxe 1 #[.int .i64 a0_0, .bool a0_1, .int .i64 a0_2, .int .i64 a0_3, .int .i64 a0_4, .int .i64 a0_5] 27 ?_; intro dP hg hc hbox hb; have bl := hbox; have dQ := nge HB hg; have dR := nge HB hg; replace HB := nbs HB hb; clear hb hbox hg; obtain ⟨mU, mV, mW, mX, mY, mZ⟩ := c6e bl; obtain ⟨m0, m1, m2, m3, m4, m5⟩ := z6_ bl) | ((with_reducible refine gate_callee (f := 64) rfl ?_); refine goesM (some 4) rfl rfl Try.func64 (by kernel_rfl) rfl #[.agg #[.int .i64 a0_0, .bool a0_1, .int .i64 a0_2, .int .i64 a0_3, .int .i64 a0_4, .int .i64 a0_5]] rfl ?_; (with_reducible refine (impl_open.calls k a0_0 a0_1 a0_2 a0_3 a0_4 a0_5 true _ A2.out).mono ?_); rintro e i9 ⟨rfl, hb⟩; refine ⟨_, rfl, ?_⟩; replace bl := nblk bl hb; replace HB := nbs HB hb; (try clear hb); obtain ⟨m6, m7, m8, m9, na, nc⟩ := c6e bl; obtain ⟨nf, ng, nh, ni, nj, nk⟩ := z6_ bl))
    go_ret
    exact ⟨er_, nbe HB⟩
 ·replace c3 := Bool.eq_false_iff.mpr c3
  subst c3; have H1 : (some false) = some r := by rw [if_neg (show ¬ (false = true) by decide)] at H; exact H
  clear H; have H := H1; clear H1; obtain rfl := Option.some.inj H
  go_enter Try.func74, Try.ntmps74
  go_wp2_with (first | ((with_reducible refine gate_dst (N := 1) rfl ?_); refine bxe 1 #[.int .i64 a0_0, .bool a0_1, .int .i64 a0_2, .int .i64 a0_3, .int .i64 a0_4, .int .i64 a0_5] 27 ?_; intro dP hg nl hbox hb; have bl := hbox; have dQ := nge HB hg; have dR := nge HB hg; replace HB := nbs HB hb; clear hb hbox hg; obtain ⟨nm, nn, np, nq, nr, ns⟩ := c6e bl; obtain ⟨nt, nu, nv, nw, nx, ny⟩ := z6_ bl) | ((with_reducible refine gate_callee (f := 64) rfl ?_); refine goesM (some 4) rfl rfl Try.func64 (by kernel_rfl) rfl #[.agg #[.int .i64 a0_0, .bool a0_1, .int .i64 a0_2, .int .i64 a0_3, .int .i64 a0_4, .int .i64 a0_5]] rfl ?_; (with_reducible refine (impl_open.calls k a0_0 a0_1 a0_2 a0_3 a0_4 a0_5 false _ A2.out).mono ?_); rintro e nz ⟨rfl, hb⟩; refine ⟨_, rfl, ?_⟩; replace bl := nblk bl hb; replace HB := nbs HB hb; (try clear hb)))
  go_ret
  exact ⟨er_, nbe HB⟩

/-! ### impl_SealBy: function 20 -/
def impl_SealBy.f (k : Nat) (a0_0 : Int) (a0_1 : Bool) (a0_2 : Int) (a0_3 : Int) (a0_4 : Int) (a0_5 : Int) (a1_0 : Int) (a1_1 : Bool) (a1_2 : Int) (a1_3 : Int) (a1_4 : Int) (a1_5 : Int) : Option (Int × Bool × Int × Int × Int × Int) := (impl_open.f k a0_0 a0_1 a0_2 a0_3 a0_4 a0_5).bind fun dj => (if dj = true then ((impl_seals.f k a1_0 a1_1 a1_2 a1_3 a1_4 a1_5).bind fun bX => (if bX = true then (some (a0_0, a0_1, a0_2, a0_3, a0_4, a1_0)) else ((impl_Bare.f a0_0 a0_1 a0_2 a0_3 a0_4 a0_5).bind fun bd => (some (bd.1, bd.2.1, bd.2.2.1, bd.2.2.2.1, bd.2.2.2.2.1, bd.2.2.2.2.2))))) else ((impl_Bare.f a0_0 a0_1 a0_2 a0_3 a0_4 a0_5).bind fun bo => (some (bo.1, bo.2.1, bo.2.2.1, bo.2.2.2.1, bo.2.2.2.2.1, bo.2.2.2.2.2))))
theorem impl_SealBy.mono : ∀ a0 a1 a2 a3 a4 a5 a6 a7 a8 a9 a10 a11 k, LeO (impl_SealBy.f k a0 a1 a2 a3 a4 a5 a6 a7 a8 a9 a10 a11) (impl_SealBy.f (k + 1) a0 a1 a2 a3 a4 a5 a6 a7 a8 a9 a10 a11) := by
 intro a0 a1 a2 a3 a4 a5 a6 a7 a8 a9 a10 a11 k
 unfold impl_SealBy.f
 repeat' first
   | (with_reducible exact impl_open.mono _ _ _ _ _ _ _)
   | (with_reducible exact impl_seals.mono _ _ _ _ _ _ _)
   | (with_reducible exact LeO.refl _)
   | (with_reducible exact LeO.none _)
   | (with_reducible refine LeO.ite ?_ ?_)
   | (with_reducible refine LeO.bind ?_ (fun _ => ?_))
   | exact impl_open.mono _ _ _ _ _ _ _
   | exact impl_seals.mono _ _ _ _ _ _ _
   | exact LeO.none _
   | refine LeO.ite ?_ ?_
   | refine LeO.bind ?_ (fun _ => ?_)
set_option maxHeartbeats 8000000 in
set_option maxRecDepth 100000 in
theorem impl_SealBy.calls (k : Nat) (a0_0 : Int) (a0_1 : Bool) (a0_2 : Int) (a0_3 : Int) (a0_4 : Int) (a0_5 : Int) (a1_0 : Int) (a1_1 : Bool) (a1_2 : Int) (a1_3 : Int) (a1_4 : Int) (a1_5 : Int) (r1 : Int) (r2 : Bool) (r3 : Int) (r4 : Int) (r5 : Int) (r6 : Int) (w : World) (h : impl_SealBy.f k a0_0 a0_1 a0_2 a0_3 a0_4 a0_5 a1_0 a1_1 a1_2 a1_3 a1_4 a1_5 = some (r1, r2, r3, r4, r5, r6)) :
  Calls Try.prog 20 #[.agg #[.int .i64 a0_0, .bool a0_1, .int .i64 a0_2, .int .i64 a0_3, .int .i64 a0_4, .int .i64 a0_5], .agg #[.int .i64 a1_0, .bool a1_1, .int .i64 a1_2, .int .i64 a1_3, .int .i64 a1_4, .int .i64 a1_5]] w fun e w' => e = .returned (.agg #[.int .i64 r1, .bool r2, .int .i64 r3, .int .i64 r4, .int .i64 r5, .int .i64 r6]) ∧ Below w.heap.size w w' := by
 have hu27 := Try.underlying27; have HB := Aside0.mk (Below.refl w.heap.size w); have H : ((impl_open.f k a0_0 a0_1 a0_2 a0_3 a0_4 a0_5).bind fun dj => (if dj = true then ((impl_seals.f k a1_0 a1_1 a1_2 a1_3 a1_4 a1_5).bind fun bX => (if bX = true then (some (a0_0, a0_1, a0_2, a0_3, a0_4, a1_0)) else ((impl_Bare.f a0_0 a0_1 a0_2 a0_3 a0_4 a0_5).bind fun bd => (some (bd.1, bd.2.1, bd.2.2.1, bd.2.2.2.1, bd.2.2.2.2.1, bd.2.2.2.2.2))))) else ((impl_Bare.f a0_0 a0_1 a0_2 a0_3 a0_4 a0_5).bind fun bo => (some (bo.1, bo.2.1, bo.2.2.1, bo.2.2.2.1, bo.2.2.2.2.1, bo.2.2.2.2.2))))) = some (r1, r2, r3, r4, r5, r6) := h; clear h; replace H := Option.bind_eq_some_iff.mp H; obtain ⟨dj, A30, H⟩ := H; replace H : (if dj = true then ((impl_seals.f k a1_0 a1_1 a1_2 a1_3 a1_4 a1_5).bind fun bX => (if bX = true then (some (a0_0, a0_1, a0_2, a0_3, a0_4, a1_0)) else ((impl_Bare.f a0_0 a0_1 a0_2 a0_3 a0_4 a0_5).bind fun bd => (some (bd.1, bd.2.1, bd.2.2.1, bd.2.2.2.1, bd.2.2.2.2.1, bd.2.2.2.2.2))))) else ((impl_Bare.f a0_0 a0_1 a0_2 a0_3 a0_4 a0_5).bind fun bo => (some (bo.1, bo.2.1, bo.2.2.1, bo.2.2.2.1, bo.2.2.2.2.1, bo.2.2.2.2.2)))) = some (r1, r2, r3, r4, r5, r6) := H; have A3 := Aside0.mk A30; clear A30
 by_cases c4 : dj = true
 ·subst c4
  have H1 : ((impl_seals.f k a1_0 a1_1 a1_2 a1_3 a1_4 a1_5).bind fun bX => (if bX = true then (some (a0_0, a0_1, a0_2, a0_3, a0_4, a1_0)) else ((impl_Bare.f a0_0 a0_1 a0_2 a0_3 a0_4 a0_5).bind fun bd => (some (bd.1, bd.2.1, bd.2.2.1, bd.2.2.2.1, bd.2.2.2.2.1, bd.2.2.2.2.2))))) = some (r1, r2, r3, r4, r5, r6) := by rw [if_pos rfl] at H; exact H
  clear H; have H := H1; clear H1; replace H := Option.bind_eq_some_iff.mp H; obtain ⟨bX, A50, H⟩ := H; replace H : (if bX = true then (some (a0_0, a0_1, a0_2, a0_3, a0_4, a1_0)) else ((impl_Bare.f a0_0 a0_1 a0_2 a0_3 a0_4 a0_5).bind fun bd => (some (bd.1, bd.2.1, bd.2.2.1, bd.2.2.2.1, bd.2.2.2.2.1, bd.2.2.2.2.2)))) = some (r1, r2, r3, r4, r5, r6) := H; have A5 := Aside0.mk A50; clear A50
  by_cases c6 : bX = true
  ·subst c6
   have H1 : (some (a0_0, a0_1, a0_2, a0_3, a0_4, a1_0)) = some (r1, r2, r3, r4, r5, r6) := by rw [if_pos rfl] at H; exact H
   clear H; have H := H1; clear H1; simp only [Option.some.injEq, Prod.mk.injEq] at H; obtain ⟨rfl, rfl, rfl, rfl, rfl, rfl⟩ := H
   go_enter Try.func20, Try.ntmps20
   go_wp2_with (first | ((with_reducible refine gate_dst (N := 2) rfl ?_); refine bxe 2 #[.int .i64 a0_0, .bool a0_1, .int .i64 a0_2, .int .i64 a0_3, .int .i64 a0_4, .int .i64 a0_5] 27 ?_; intro gK hg w7 hbox hb; have ba := hbox; have gL := nge HB hg; have gM := nge HB hg; replace HB := nbs HB hb; clear hb hbox hg) | ((with_reducible refine gate_dst (N := 3) rfl ?_); refine bxe 3 #[.int .i64 a1_0, .bool a1_1, .int .i64 a1_2, .int .i64 a1_3, .int .i64 a1_4, .int .i64 a1_5] 27 ?_; intro gN hg w8 hbox hb; have bj := hbox; have gO := nge HB hg; have gP := nge HB hg; have dm := nlt ba hg; have dn := ngt ba hg; replace ba := nblk ba hb; replace HB := nbs HB hb; clear hb hbox hg) | ((with_reducible refine gate_dst (N := 4) rfl ?_); refine bxe 4 #[.int .i64 0, .bool false, .int .i64 0, .int .i64 0, .int .i64 0, .int .i64 0] 27 ?_; intro dp hg w9 hbox hb; have bq := hbox; have gQ := nge HB hg; have gR := nge HB hg; have dq := nlt ba hg; have dk := ngt ba hg; have dr := nlt bj hg; have dt := ngt bj hg; replace ba := nblk ba hb; replace bj := nblk bj hb; replace HB := nbs HB hb; clear hb hbox hg; have iJ := dm.out; have iK := dn.out; have eU := dq.out; have eV := dk.out; obtain ⟨eW, eX, eY, eZ, e0, e1⟩ := c6e ba; obtain ⟨e2, e3, e4, e5, e6, e7⟩ := z6_ ba) | ((with_reducible refine gate_callee (f := 64) rfl ?_); refine goesM (some 6) rfl rfl Try.func64 (by kernel_rfl) rfl #[.agg #[.int .i64 a0_0, .bool a0_1, .int .i64 a0_2, .int .i64 a0_3, .int .i64 a0_4, .int .i64 a0_5]] rfl ?_; (with_reducible refine (impl_open.calls k a0_0 a0_1 a0_2 a0_3 a0_4 a0_5 true _ A3.out).mono ?_); rintro e dT ⟨rfl, hb⟩; refine ⟨_, rfl, ?_⟩; replace ba := nblk ba hb; replace bj := nblk bj hb; replace bq := nblk bq hb; replace HB := nbs HB hb; (try clear hb); have nA := dr.out; have nB := dt.out; obtain ⟨iX, iY, iZ, i0, i1, i2⟩ := c6e bj; obtain ⟨i3, i4, i5, i6, i7, i8⟩ := z6_ bj) | (go_at_call 74; (with_reducible refine (impl_seals.calls k a1_0 a1_1 a1_2 a1_3 a1_4 a1_5 true _ A5.out).mono ?_); rintro e bE ⟨rfl, hb⟩; replace ba := nblk ba hb; replace bj := nblk bj hb; replace bq := nblk bq hb; replace HB := nbs HB hb; (try clear hb); obtain ⟨gq, gr, gs, gt, gu, gv⟩ := c6e bj; obtain ⟨gw, gx, gy, gz, gA, gB⟩ := z6_ bj; obtain ⟨nC, nD, nE, nF, nG, nH⟩ := c6e ba; obtain ⟨nI, nJ, nL, nM, nN, nO⟩ := z6_ ba; obtain ⟨dA, dB, dC, dD, dE, dF⟩ := c6e bq; obtain ⟨dG, dH, dI, dJ, dK, dL⟩ := z6_ bq))
   refine bodyPost_ret (results_cell_row rfl _ _ dp 27 #[.int .i64 a0_0, .bool a0_1, .int .i64 a0_2, .int .i64 a0_3, .int .i64 a0_4, .int .i64 a1_0] (0, 0) _ rfl (p6 bq (k1_ dk.out (nb bq))) Try.underlying27 rfl (by kernel_rfl)) rfl ?_; exact ⟨er_, nbe HB⟩
  ·replace c6 := Bool.eq_false_iff.mpr c6
   subst c6; have H1 : ((impl_Bare.f a0_0 a0_1 a0_2 a0_3 a0_4 a0_5).bind fun bd => (some (bd.1, bd.2.1, bd.2.2.1, bd.2.2.2.1, bd.2.2.2.2.1, bd.2.2.2.2.2))) = some (r1, r2, r3, r4, r5, r6) := by rw [if_neg (show ¬ (false = true) by decide)] at H; exact H
   clear H; have H := H1; clear H1; replace H := Option.bind_eq_some_iff.mp H; obtain ⟨⟨eI, eJ, eK, eL, eM, eN⟩, A200, H⟩ := H; replace H : (some (eI, eJ, eK, eL, eM, eN)) = some (r1, r2, r3, r4, r5, r6) := H; have A20 := Aside0.mk A200; clear A200; simp only [Option.some.injEq, Prod.mk.injEq] at H; obtain ⟨rfl, rfl, rfl, rfl, rfl, rfl⟩ := H
   go_enter Try.func20, Try.ntmps20
   go_wp2_with (first | ((with_reducible refine gate_dst (N := 2) rfl ?_); refine bxe 2 #[.int .i64 a0_0, .bool a0_1, .int .i64 a0_2, .int .i64 a0_3, .int .i64 a0_4, .int .i64 a0_5] 27 ?_; intro gK hg nP hbox hb; have ba := hbox; have gL := nge HB hg; have gM := nge HB hg; replace HB := nbs HB hb; clear hb hbox hg) | ((with_reducible refine gate_dst (N := 3) rfl ?_); refine bxe 3 #[.int .i64 a1_0, .bool a1_1, .int .i64 a1_2, .int .i64 a1_3, .int .i64 a1_4, .int .i64 a1_5] 27 ?_; intro gN hg i9 hbox hb; have bj := hbox; have gO := nge HB hg; have gP := nge HB hg; have dm := nlt ba hg; have dn := ngt ba hg; replace ba := nblk ba hb; replace HB := nbs HB hb; clear hb hbox hg) | ((with_reducible refine gate_dst (N := 4) rfl ?_); refine bxe 4 #[.int .i64 0, .bool false, .int .i64 0, .int .i64 0, .int .i64 0, .int .i64 0] 27 ?_; intro dp hg nQ hbox hb; have bq := hbox; have gQ := nge HB hg; have gR := nge HB hg; have dq := nlt ba hg; have dk := ngt ba hg; have dr := nlt bj hg; have dt := ngt bj hg; replace ba := nblk ba hb; replace bj := nblk bj hb; replace HB := nbs HB hb; clear hb hbox hg; have nR := dm.out; have nS := dn.out; have nT := dq.out; have nU := dk.out; obtain ⟨hd, hf, hh, hj, hl, hm⟩ := c6e ba; obtain ⟨hn, ho, hp, hq, hr, hs⟩ := z6_ ba) | ((with_reducible refine gate_callee (f := 64) rfl ?_); refine goesM (some 6) rfl rfl Try.func64 (by kernel_rfl) rfl #[.agg #[.int .i64 a0_0, .bool a0_1, .int .i64 a0_2, .int .i64 a0_3, .int .i64 a0_4, .int .i64 a0_5]] rfl ?_; (with_reducible refine (impl_open.calls k a0_0 a0_1 a0_2 a0_3 a0_4 a0_5 true _ A3.out).mono ?_); rintro e nV ⟨rfl, hb⟩; refine ⟨_, rfl, ?_⟩; replace ba := nblk ba hb; replace bj := nblk bj hb; replace bq := nblk bq hb; replace HB := nbs HB hb; (try clear hb); have nW := dr.out; have nX := dt.out; obtain ⟨nY, nZ, n0, n1, n2, n3⟩ := c6e bj; obtain ⟨n4, n5, n6, n7, n8, n9⟩ := z6_ bj) | (go_at_call 74; (with_reducible refine (impl_seals.calls k a1_0 a1_1 a1_2 a1_3 a1_4 a1_5 false _ A5.out).mono ?_); rintro e oa ⟨rfl, hb⟩; replace ba := nblk ba hb; replace bj := nblk bj hb; replace bq := nblk bq hb; replace HB := nbs HB hb; (try clear hb); obtain ⟨ht, hu, hv, hw, hx, hy⟩ := c6e ba; obtain ⟨hz, hA, hC, hD, hE, hF⟩ := z6_ ba) | ((with_reducible refine gate_callee (f := 48) rfl ?_); refine goesM (some 14) rfl rfl Try.func48 (by kernel_rfl) rfl #[.agg #[.int .i64 a0_0, .bool a0_1, .int .i64 a0_2, .int .i64 a0_3, .int .i64 a0_4, .int .i64 a0_5]] rfl ?_; (with_reducible refine (impl_Bare.calls a0_0 a0_1 a0_2 a0_3 a0_4 a0_5 eI eJ eK eL eM eN _ A20.out).mono ?_); rintro e hG ⟨rfl, hb⟩; refine ⟨_, rfl, ?_⟩; replace ba := nblk ba hb; replace bj := nblk bj hb; replace bq := nblk bq hb; replace HB := nbs HB hb; (try clear hb); obtain ⟨hH, hJ, hL, hM, hN, hO⟩ := c6e bq; obtain ⟨hQ, hR, hS, hT, hU, hV⟩ := z6_ bq))
   refine bodyPost_ret (results_cell_row rfl _ _ dp 27 #[.int .i64 eI, .bool eJ, .int .i64 eK, .int .i64 eL, .int .i64 eM, .int .i64 eN] (0, 0) _ rfl (q6 bq) Try.underlying27 rfl (by kernel_rfl)) rfl ?_; exact ⟨er_, nbe HB⟩
 ·replace c4 := Bool.eq_false_iff.mpr c4
  subst c4; have H1 : ((impl_Bare.f a0_0 a0_1 a0_2 a0_3 a0_4 a0_5).bind fun bo => (some (bo.1, bo.2.1, bo.2.2.1, bo.2.2.2.1, bo.2.2.2.2.1, bo.2.2.2.2.2))) = some (r1, r2, r3, r4, r5, r6) := by rw [if_neg (show ¬ (false = true) by decide)] at H; exact H
  clear H; have H := H1; clear H1; replace H := Option.bind_eq_some_iff.mp H; obtain ⟨⟨eO, eP, eQ, eR, eS, eT⟩, A340, H⟩ := H; replace H : (some (eO, eP, eQ, eR, eS, eT)) = some (r1, r2, r3, r4, r5, r6) := H; have A34 := Aside0.mk A340; clear A340; simp only [Option.some.injEq, Prod.mk.injEq] at H; obtain ⟨rfl, rfl, rfl, rfl, rfl, rfl⟩ := H
  go_enter Try.func20, Try.ntmps20
  go_wp2_with (first | ((with_reducible refine gate_dst (N := 2) rfl ?_); refine bxe 2 #[.int .i64 a0_0, .bool a0_1, .int .i64 a0_2, .int .i64 a0_3, .int .i64 a0_4, .int .i64 a0_5] 27 ?_; intro gK hg ob hbox hb; have ba := hbox; have gL := nge HB hg; have gM := nge HB hg; replace HB := nbs HB hb; clear hb hbox hg) | ((with_reducible refine gate_dst (N := 3) rfl ?_); refine bxe 3 #[.int .i64 a1_0, .bool a1_1, .int .i64 a1_2, .int .i64 a1_3, .int .i64 a1_4, .int .i64 a1_5] 27 ?_; intro gN hg oc hbox hb; have bj := hbox; have gO := nge HB hg; have gP := nge HB hg; have dm := nlt ba hg; have dn := ngt ba hg; replace ba := nblk ba hb; replace HB := nbs HB hb; clear hb hbox hg) | ((with_reducible refine gate_dst (N := 4) rfl ?_); refine bxe 4 #[.int .i64 0, .bool false, .int .i64 0, .int .i64 0, .int .i64 0, .int .i64 0] 27 ?_; intro dp hg od hbox hb; have bq := hbox; have gQ := nge HB hg; have gR := nge HB hg; have dq := nlt ba hg; have dk := ngt ba hg; have dr := nlt bj hg; have dt := ngt bj hg; replace ba := nblk ba hb; replace bj := nblk bj hb; replace HB := nbs HB hb; clear hb hbox hg; have hW := dm.out; have hX := dn.out; have oe := dq.out; have og := dk.out; obtain ⟨oh, oi, oj, ok, ol, om⟩ := c6e ba; obtain ⟨oo, op, oq, os, ot, ou⟩ := z6_ ba) | ((with_reducible refine gate_callee (f := 64) rfl ?_); refine goesM (some 6) rfl rfl Try.func64 (by kernel_rfl) rfl #[.agg #[.int .i64 a0_0, .bool a0_1, .int .i64 a0_2, .int .i64 a0_3, .int .i64 a0_4, .int .i64 a0_5]] rfl ?_; (with_reducible refine (impl_open.calls k a0_0 a0_1 a0_2 a0_3 a0_4 a0_5 false _ A3.out).mono ?_); rintro e ov ⟨rfl, hb⟩; refine ⟨_, rfl, ?_⟩; replace ba := nblk ba hb; replace bj := nblk bj hb; replace bq := nblk bq hb; replace HB := nbs HB hb; (try clear hb); obtain ⟨ow, ox, oy, oz, oA, oB⟩ := c6e ba; obtain ⟨oC, oD, oE, oF, oG, oH⟩ := z6_ ba) | ((with_reducible refine gate_callee (f := 48) rfl ?_); refine goesM (some 14) rfl rfl Try.func48 (by kernel_rfl) rfl #[.agg #[.int .i64 a0_0, .bool a0_1, .int .i64 a0_2, .int .i64 a0_3, .int .i64 a0_4, .int .i64 a0_5]] rfl ?_; (with_reducible refine (impl_Bare.calls a0_0 a0_1 a0_2 a0_3 a0_4 a0_5 eO eP eQ eR eS eT _ A34.out).mono ?_); rintro e oI ⟨rfl, hb⟩; refine ⟨_, rfl, ?_⟩; replace ba := nblk ba hb; replace bj := nblk bj hb; replace bq := nblk bq hb; replace HB := nbs HB hb; (try clear hb); have hY := dt.out; have hZ := dr.out; obtain ⟨h0, h1, h2, h3, h4, h5⟩ := c6e bq; obtain ⟨h6, h7, h8, h9, ia, ib⟩ := z6_ bq))
  refine bodyPost_ret (results_cell_row rfl _ _ dp 27 #[.int .i64 eO, .bool eP, .int .i64 eQ, .int .i64 eR, .int .i64 eS, .int .i64 eT] (0, 0) _ rfl (q6 bq) Try.underlying27 rfl (by kernel_rfl)) rfl ?_; exact ⟨er_, nbe HB⟩

end Go.Proofs.Ytiliggbholjdjaa.PFnDerived
