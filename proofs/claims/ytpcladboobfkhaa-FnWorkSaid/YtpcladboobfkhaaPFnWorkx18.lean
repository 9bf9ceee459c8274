-- Written by a program of this session (wip/patch.py turns a copy of the kit's print): the functions that the law reaches, and their walks.
import Derived.Test.YtpcladboobfkhaaPFnWorkx0
import Derived.Test.YtpcladboobfkhaaPFnWorkx4
import Derived.Test.YtpcladboobfkhaaPFnWorkx5
import Derived.Test.YtpcladboobfkhaaPFnWorkx6
import Derived.Test.YtpcladboobfkhaaPFnWorkx17
import Derived.Test.YtpcladboobfkhaaCFnWork
import Derived.Test.YtpcladboobfkhaaEFnWork
namespace Go.Proofs.Ytpcladboobfkhaa.PFnWork
open Go.RowKit Go.Proofs.YtpcladboobfkhaaW.PrintWords Go.Proofs.YtpcladboobfkhaaW.PrintLast Go.Proofs.YtpcladboobfkhaaW.PrintMore Go.Proofs.YtpcladboobfkhaaW.Mine
attribute [local go_sem] dsc dhs dha ddr ddrN
attribute [local go_sem] max2_int min2_int max_two min_two max_three min_three max_four min_four   -- for this text's walks alone
set_option linter.unusedVariables false
set_option linter.unusedSimpArgs false

/-! ### spec_Narrow: function 57 -/
def spec_Narrow.j0 : Nat → Int → Bool → Int → Bool → Int → Int → Int → Int → Option (Int × Bool × Int × Int × Int × Int)
 | 0, _, _, _, _, _, _, _, _ => none
 | k + 1, x1, gJ, bL, bY, bZ, b0, b1, b2 => if gJ = true then ((spec_Bare.f bL bY bZ b0 b1 b2).bind fun bt => (some (bt.1, bt.2.1, bt.2.2.1, bt.2.2.2.1, bt.2.2.2.2.1, bt.2.2.2.2.2))) else ((spec_Wide.f k bL (wrap64 (bL + x1))).bind fun bA => (if bA.1 < bZ then ((spec_Bare.f bL bY bZ b0 b1 b2).bind fun bq => (some (bq.1, bq.2.1, bq.2.2.1, bq.2.2.2.1, bq.2.2.2.2.1, bq.2.2.2.2.2))) else (if bA.2 > b0 then ((spec_Bare.f bL bY bZ b0 b1 b2).bind fun br => (some (br.1, br.2.1, br.2.2.1, br.2.2.2.1, br.2.2.2.2.1, br.2.2.2.2.2))) else (some (bL, bY, bA.1, bA.2, b1, b2)))))
def spec_Narrow.f (k : Nat) (a0_0 : Int) (a0_1 : Bool) (a0_2 : Int) (a0_3 : Int) (a0_4 : Int) (a0_5 : Int) (a1 : Int) : Option (Int × Bool × Int × Int × Int × Int) := (spec_l4Open.f k a0_0 a0_1 a0_2 a0_3 a0_4 a0_5).bind fun bM => (if bM = true then ((spec_l1In.f a1 0 4096).bind fun bv => (if bv = true then ((spec_BoundsOk.f a0_0 (wrap64 (a0_0 + a1))).bind fun bs => (spec_Narrow.j0 k a1 (!bs) a0_0 a0_1 a0_2 a0_3 a0_4 a0_5)) else (spec_Narrow.j0 k a1 true a0_0 a0_1 a0_2 a0_3 a0_4 a0_5))) else (spec_Narrow.j0 k a1 true a0_0 a0_1 a0_2 a0_3 a0_4 a0_5))
theorem spec_Narrow.mono_l : ∀ k, (∀ y0 y1 y2 y3 y4 y5 y6 y7, LeO (spec_Narrow.j0 k y0 y1 y2 y3 y4 y5 y6 y7) (spec_Narrow.j0 (k + 1) y0 y1 y2 y3 y4 y5 y6 y7))
 | 0 => fun _ _ _ _ _ _ _ _ r h => by simp [spec_Narrow.j0] at h
 | k + 1 => by
  have ih0 := spec_Narrow.mono_l k
  ·intro y0 y1 y2 y3 y4 y5 y6 y7
   unfold spec_Narrow.j0
   repeat' first
   | (with_reducible exact ih0 _ _ _ _ _ _ _ _)
   | (with_reducible exact spec_Wide.mono _ _ _)
   | (with_reducible exact spec_l4Open.mono _ _ _ _ _ _ _)
   | (with_reducible exact LeO.refl _)
   | (with_reducible exact LeO.none _)
   | (with_reducible refine LeO.ite ?_ ?_)
   | (with_reducible refine LeO.bind ?_ (fun _ => ?_))
   | exact ih0 _ _ _ _ _ _ _ _
   | exact spec_Wide.mono _ _ _
   | exact spec_l4Open.mono _ _ _ _ _ _ _
   | exact LeO.none _
   | refine LeO.ite ?_ ?_
   | refine LeO.bind ?_ (fun _ => ?_)
theorem spec_Narrow.mono : ∀ a0 a1 a2 a3 a4 a5 a6 k, LeO (spec_Narrow.f k a0 a1 a2 a3 a4 a5 a6) (spec_Narrow.f (k + 1) a0 a1 a2 a3 a4 a5 a6) := by
 intro a0 a1 a2 a3 a4 a5 a6 k; have ih0 := spec_Narrow.mono_l k
 unfold spec_Narrow.f
 repeat' first
   | (with_reducible exact ih0 _ _ _ _ _ _ _ _)
   | (with_reducible exact spec_Wide.mono _ _ _)
   | (with_reducible exact spec_l4Open.mono _ _ _ _ _ _ _)
   | (with_reducible exact LeO.refl _)
   | (with_reducible exact LeO.none _)
   | (with_reducible refine LeO.ite ?_ ?_)
   | (with_reducible refine LeO.bind ?_ (fun _ => ?_))
   | exact ih0 _ _ _ _ _ _ _ _
   | exact spec_Wide.mono _ _ _
   | exact spec_l4Open.mono _ _ _ _ _ _ _
   | exact LeO.none _
   | refine LeO.ite ?_ ?_
   | refine LeO.bind ?_ (fun _ => ?_)
set_option maxHeartbeats 8000000 in
set_option maxRecDepth 100000 in
theorem spec_Narrow.calls (k : Nat) (a0_0 : Int) (a0_1 : Bool) (a0_2 : Int) (a0_3 : Int) (a0_4 : Int) (a0_5 : Int) (a1 : Int) (r1 : Int) (r2 : Bool) (r3 : Int) (r4 : Int) (r5 : Int) (r6 : Int) (w : World) (h : spec_Narrow.f k a0_0 a0_1 a0_2 a0_3 a0_4 a0_5 a1 = some (r1, r2, r3, r4, r5, r6)) :
  Calls Try.prog 57 #[.agg #[.int .i64 a0_0, .bool a0_1, .int .i64 a0_2, .int .i64 a0_3, .int .i64 a0_4, .int .i64 a0_5], .int .i64 a1] w fun e w' => e = .returned (.agg #[.int .i64 r1, .bool r2, .int .i64 r3, .int .i64 r4, .int .i64 r5, .int .i64 r6]) ∧ Below w.heap.size w w' := by
 have hu29 := Try.underlying29; have HB := Aside0.mk (Below.refl w.heap.size w); have H := h; clear h; unfold spec_Narrow.f at H; (try dsimp only at H); have df := Aside0.mk H; clear H
 go_enter Try.func57, Try.ntmps57
 go_upto_region 1 with (first | ((with_reducible refine gate_dst (N := 2) rfl ?_); refine bxe 2 #[.int .i64 a0_0, .bool a0_1, .int .i64 a0_2, .int .i64 a0_3, .int .i64 a0_4, .int .i64 a0_5] 29 ?_; intro gK hg w4 hbox hb; have bd := hbox; have iR := nge HB hg; have iS := nge HB hg; replace HB := nbs HB hb; clear hb hbox hg) | ((with_reducible refine gate_dst (N := 4) rfl ?_); refine bxe 4 #[.int .i64 0, .bool false, .int .i64 0, .int .i64 0, .int .i64 0, .int .i64 0] 29 ?_; intro bR hg w5 hbox hb; have bj := hbox; have iT := nge HB hg; have iU := nge HB hg; have bK := nlt bd hg; have bJ := ngt bd hg; replace bd := nblk bd hb; replace HB := nbs HB hb; clear hb hbox hg))
 (try simp only [Act.put, List.setIfInBounds_toArray, List.set_cons_zero, List.set_cons_succ])
 go_cut [24] (fun gL wc => ∃ (kq : Nat) (b3 : Bool), gL = .bool b3 ∧ Aside0 (spec_Narrow.j0 kq a1 b3 a0_0 a0_1 a0_2 a0_3 a0_4 a0_5 = some (r1, r2, r3, r4, r5, r6)) ∧ Aside0 (kq ≤ k) ∧ Aside0 (wc.heap[gK]? = some (.cells #[.int .i64 a0_0, .bool a0_1, .int .i64 a0_2, .int .i64 a0_3, .int .i64 a0_4, .int .i64 a0_5] 29 (0, 0))) ∧ Aside0 (wc.heap[bR]? = some (.cells #[.int .i64 0, .bool false, .int .i64 0, .int .i64 0, .int .i64 0, .int .i64 0] 29 (0, 0))) ∧ Aside0 (Below w.heap.size w wc))
 case first =>
  have H := df.out; clear df; replace H := Option.bind_eq_some_iff.mp H; obtain ⟨bM, A60, H⟩ := H; (try dsimp only at H); have A6 := Aside0.mk A60; clear A60
  by_cases c7 : bM = true
  ·subst c7
   rw [if_pos rfl] at H; (try dsimp only at H); replace H := Option.bind_eq_some_iff.mp H; obtain ⟨bv, A80, H⟩ := H; (try dsimp only at H); have A8 := Aside0.mk A80; clear A80
   by_cases c9 : bv = true
   ·subst c9
    rw [if_pos rfl] at H; (try dsimp only at H); replace H := Option.bind_eq_some_iff.mp H; obtain ⟨bs, A100, H⟩ := H; (try dsimp only at H); have A10 := Aside0.mk A100; clear A100; have H' := Aside0.mk H; clear H; have gM := bK.out; have gN := bJ.out; obtain ⟨el, em, en, eo, ep, er⟩ := c6e bd; obtain ⟨es, et, eu, ev, ew, ex⟩ := z6_ bd
    go_wp2_with (first | ((with_reducible refine gate_callee (f := 54) rfl ?_); refine goesM (some 8) rfl rfl Try.func54 (by kernel_rfl) rfl #[.agg #[.int .i64 a0_0, .bool a0_1, .int .i64 a0_2, .int .i64 a0_3, .int .i64 a0_4, .int .i64 a0_5]] rfl ?_; (with_reducible refine (spec_l4Open.calls k a0_0 a0_1 a0_2 a0_3 a0_4 a0_5 true _ A6.out).mono ?_); rintro e gO ⟨rfl, hb⟩; refine ⟨_, rfl, ?_⟩; replace bd := nblk bd hb; replace bj := nblk bj hb; replace HB := nbs HB hb; (try clear hb)) | (go_at_call 32; (with_reducible refine (spec_l1In.calls a1 0 4096 true _ A8.out).mono ?_); rintro e w' ⟨rfl, ⟨nd, rfl⟩⟩; obtain ⟨ey, ez, eA, eB, eC, eD⟩ := c6e bd; obtain ⟨eE, eF, eG, eH, eI, eJ⟩ := z6_ bd) | (go_at_call 74; (with_reducible refine (spec_BoundsOk.calls a0_0 (wrap64 (a0_0 + a1)) bs _ A10.out).mono ?_); rintro e w' ⟨rfl, ⟨nd, rfl⟩⟩))
    go_meet
    case rel => exact ⟨_, (!bs), (by first | rfl | (simp; done) | (simp [*]; done)), H', ⟨by first | omega | exact Nat.le_refl _⟩, ⟨nb bd⟩, ⟨nb bj⟩, ⟨nbe HB⟩⟩
   ·replace c9 := Bool.eq_false_iff.mpr c9
    subst c9; rw [if_neg (show ¬ (false = true) by decide)] at H; (try dsimp only at H); have H' := Aside0.mk H; clear H; have iV := bK.out; have iW := bJ.out; obtain ⟨eK, eL, eM, eN, eO, eP⟩ := c6e bd; obtain ⟨eQ, eR, eS, eT, eU, eV⟩ := z6_ bd
    go_wp2_with (first | ((with_reducible refine gate_callee (f := 54) rfl ?_); refine goesM (some 8) rfl rfl Try.func54 (by kernel_rfl) rfl #[.agg #[.int .i64 a0_0, .bool a0_1, .int .i64 a0_2, .int .i64 a0_3, .int .i64 a0_4, .int .i64 a0_5]] rfl ?_; (with_reducible refine (spec_l4Open.calls k a0_0 a0_1 a0_2 a0_3 a0_4 a0_5 true _ A6.out).mono ?_); rintro e iX ⟨rfl, hb⟩; refine ⟨_, rfl, ?_⟩; replace bd := nblk bd hb; replace bj := nblk bj hb; replace HB := nbs HB hb; (try clear hb)) | (go_at_call 32; (with_reducible refine (spec_l1In.calls a1 0 4096 false _ A8.out).mono ?_); rintro e w' ⟨rfl, ⟨nd, rfl⟩⟩))
    go_meet
    case rel => exact ⟨_, (true), (by first | rfl | (simp; done) | (simp [*]; done)), H', ⟨by first | omega | exact Nat.le_refl _⟩, ⟨nb bd⟩, ⟨nb bj⟩, ⟨nbe HB⟩⟩
  ·replace c7 := Bool.eq_false_iff.mpr c7
   subst c7; rw [if_neg (show ¬ (false = true) by decide)] at H; (try dsimp only at H); have H' := Aside0.mk H; clear H; have iY := bK.out; have iZ := bJ.out; obtain ⟨dg, dh, di, dj, dk, dl⟩ := c6e bd; obtain ⟨dm, dn, dp, dq, dr, ds⟩ := z6_ bd
   go_wp2_with (first | ((with_reducible refine gate_callee (f := 54) rfl ?_); refine goesM (some 8) rfl rfl Try.func54 (by kernel_rfl) rfl #[.agg #[.int .i64 a0_0, .bool a0_1, .int .i64 a0_2, .int .i64 a0_3, .int .i64 a0_4, .int .i64 a0_5]] rfl ?_; (with_reducible refine (spec_l4Open.calls k a0_0 a0_1 a0_2 a0_3 a0_4 a0_5 false _ A6.out).mono ?_); rintro e gP ⟨rfl, hb⟩; refine ⟨_, rfl, ?_⟩; replace bd := nblk bd hb; replace bj := nblk bj hb; replace HB := nbs HB hb; (try clear hb)))
   go_meet
   case rel => exact ⟨_, (true), (by first | rfl | (simp; done) | (simp [*]; done)), H', ⟨by first | omega | exact Nat.le_refl _⟩, ⟨nb bd⟩, ⟨nb bj⟩, ⟨nbe HB⟩⟩
 case rest =>
  clear df; try clear c1
  try clear p2
  try clear c5
  try clear p6
  try clear c7
  try clear c9
  try clear c11
  try clear c15
  try clear c18
  try clear el
  try clear em
  try clear en
  try clear eo
  try clear ep
  try clear er
  try clear ey
  try clear ez
  try clear eA
  try clear eB
  try clear eC
  try clear eD
  try clear eK
  try clear eL
  try clear eM
  try clear eN
  try clear eO
  try clear eP
  try clear dg
  try clear dh
  try clear di
  try clear dj
  try clear dk
  try clear dl
  try clear es
  try clear et
  try clear eu
  try clear ev
  try clear ew
  try clear ex
  try clear eE
  try clear eF
  try clear eG
  try clear eH
  try clear eI
  try clear eJ
  try clear eQ
  try clear eR
  try clear eS
  try clear eT
  try clear eU
  try clear eV
  try clear dm
  try clear dn
  try clear dp
  try clear dq
  try clear dr
  try clear ds
  obtain ⟨kq, b3, rfl, HA, i0, bd, bj, HB⟩ := hcut
  cases kq with
  | zero => exact absurd HA.out (by simp [spec_Narrow.j0])
  | succ kj2 =>
   have H := HA.out; clear HA; simp only [spec_Narrow.j0] at H
   by_cases c21 : b3 = true
   ·subst c21
    rw [if_pos rfl] at H; (try dsimp only at H); replace H := Option.bind_eq_some_iff.mp H; obtain ⟨⟨dt, du, dv, dw, dx, dy⟩, A220, H⟩ := H; (try dsimp only at H); have A22 := Aside0.mk A220; clear A220; simp only [Option.some.injEq, Prod.mk.injEq] at H; obtain ⟨rfl, rfl, rfl, rfl, rfl, rfl⟩ := H; have i1 := bK.out; have i2 := bJ.out; obtain ⟨i3, i4, i5, i6, i7, i8⟩ := c6e bd; obtain ⟨i9, ja, jb, jc, jd, je⟩ := z6_ bd
    go_wp2_with (first | ((with_reducible refine gate_callee (f := 73) rfl ?_); refine goesM (some 26) rfl rfl Try.func73 (by kernel_rfl) rfl #[.agg #[.int .i64 a0_0, .bool a0_1, .int .i64 a0_2, .int .i64 a0_3, .int .i64 a0_4, .int .i64 a0_5]] rfl ?_; (with_reducible refine (spec_Bare.calls a0_0 a0_1 a0_2 a0_3 a0_4 a0_5 dt du dv dw dx dy _ A22.out).mono ?_); rintro e gQ ⟨rfl, hb⟩; refine ⟨_, rfl, ?_⟩; replace bd := nblk bd hb; replace bj := nblk bj hb; replace HB := nbs HB hb; (try clear hb); obtain ⟨gR, gS, gT, gU, gV, gW⟩ := c6e bj; obtain ⟨gX, gY, gZ, g0, g1, g2⟩ := z6_ bj))
    refine bodyPost_ret (results_cell_row rfl _ _ bR 29 #[.int .i64 dt, .bool du, .int .i64 dv, .int .i64 dw, .int .i64 dx, .int .i64 dy] (0, 0) _ rfl (q6 bj) Try.underlying29 rfl (by kernel_rfl)) rfl ?_; exact ⟨er_, nbe HB⟩
   ·replace c21 := Bool.eq_false_iff.mpr c21
    subst c21; rw [if_neg (show ¬ (false = true) by decide)] at H; (try dsimp only at H); replace H := Option.bind_eq_some_iff.mp H; obtain ⟨⟨bB, bC⟩, A270, H⟩ := H; (try dsimp only at H); have A27 := Aside0.mk A270; clear A270
    by_cases c28 : bB < a0_2
    ·rw [if_pos c28] at H
     have c28b0 : decide (bB < a0_2) = true := decide_eq_true c28; clear c28; replace H := Option.bind_eq_some_iff.mp H; obtain ⟨⟨dz, dA, dB, dC, dD, dE⟩, A290, H⟩ := H; (try dsimp only at H); have A29 := Aside0.mk A290; clear A290; simp only [Option.some.injEq, Prod.mk.injEq] at H; obtain ⟨rfl, rfl, rfl, rfl, rfl, rfl⟩ := H; have jf := bK.out; have jg := bJ.out; obtain ⟨eW, eX, eY, eZ, e0, e1⟩ := c6e bd; obtain ⟨e2, e3, e4, e5, e6, e7⟩ := z6_ bd
     go_wp2_with (first | ((with_reducible refine gate_callee (f := 75) rfl ?_); refine goesM (some 34) rfl rfl Try.func75 (by kernel_rfl) rfl #[.int .i64 a0_0, .int .i64 (wrap64 (a0_0 + a1))] rfl ?_; (with_reducible refine (spec_Wide.calls kj2 a0_0 (wrap64 (a0_0 + a1)) bB bC _ A27.out).mono ?_); rintro e g3 ⟨rfl, hb⟩; refine ⟨_, rfl, ?_⟩; replace bd := nblk bd hb; replace bj := nblk bj hb; replace HB := nbs HB hb; (try clear hb); obtain ⟨e8, e9, ga, gb, gc, gd⟩ := c6e bd; obtain ⟨gf, gg, gh, gi, gj, gl⟩ := z6_ bd) | ((with_reducible refine gate_callee (f := 73) rfl ?_); refine goesM (some 50) rfl rfl Try.func73 (by kernel_rfl) rfl #[.agg #[.int .i64 a0_0, .bool a0_1, .int .i64 a0_2, .int .i64 a0_3, .int .i64 a0_4, .int .i64 a0_5]] rfl ?_; (with_reducible refine (spec_Bare.calls a0_0 a0_1 a0_2 a0_3 a0_4 a0_5 dz dA dB dC dD dE _ A29.out).mono ?_); rintro e g4 ⟨rfl, hb⟩; refine ⟨_, rfl, ?_⟩; replace bd := nblk bd hb; replace bj := nblk bj hb; replace HB := nbs HB hb; (try clear hb); obtain ⟨g5, g6, g7, g8, g9, ha⟩ := c6e bj; obtain ⟨hc, hd, hf, hh, hj, hl⟩ := z6_ bj))
     refine bodyPost_ret (results_cell_row rfl _ _ bR 29 #[.int .i64 dz, .bool dA, .int .i64 dB, .int .i64 dC, .int .i64 dD, .int .i64 dE] (0, 0) _ rfl (q6 bj) Try.underlying29 rfl (by kernel_rfl)) rfl ?_; exact ⟨er_, nbe HB⟩
    ·rw [if_neg c28] at H
     have c28b0 : decide (bB < a0_2) = false := decide_eq_false c28; clear c28
     by_cases c36 : bC > a0_3
     ·rw [if_pos c36] at H
      have c36b0 : decide (a0_3 < bC) = true := decide_eq_true c36; clear c36; replace H := Option.bind_eq_some_iff.mp H; obtain ⟨⟨dF, dG, dH, dI, dJ, dK⟩, A370, H⟩ := H; (try dsimp only at H); have A37 := Aside0.mk A370; clear A370; simp only [Option.some.injEq, Prod.mk.injEq] at H; obtain ⟨rfl, rfl, rfl, rfl, rfl, rfl⟩ := H; have hm := bK.out; have hn := bJ.out; obtain ⟨jh, ji, jj, jk, jl, jm⟩ := c6e bd; obtain ⟨jn, jo, jp, jq, jr, js⟩ := z6_ bd
      go_wp2_with (first | ((with_reducible refine gate_callee (f := 75) rfl ?_); refine goesM (some 34) rfl rfl Try.func75 (by kernel_rfl) rfl #[.int .i64 a0_0, .int .i64 (wrap64 (a0_0 + a1))] rfl ?_; (with_reducible refine (spec_Wide.calls kj2 a0_0 (wrap64 (a0_0 + a1)) bB bC _ A27.out).mono ?_); rintro e ho ⟨rfl, hb⟩; refine ⟨_, rfl, ?_⟩; replace bd := nblk bd hb; replace bj := nblk bj hb; replace HB := nbs HB hb; (try clear hb); obtain ⟨jt, ju, jv, jw, jx, jy⟩ := c6e bd; obtain ⟨jz, jA, jB, jC, jD, jE⟩ := z6_ bd) | ((with_reducible refine gate_callee (f := 73) rfl ?_); refine goesM (some 50) rfl rfl Try.func73 (by kernel_rfl) rfl #[.agg #[.int .i64 a0_0, .bool a0_1, .int .i64 a0_2, .int .i64 a0_3, .int .i64 a0_4, .int .i64 a0_5]] rfl ?_; (with_reducible refine (spec_Bare.calls a0_0 a0_1 a0_2 a0_3 a0_4 a0_5 dF dG dH dI dJ dK _ A37.out).mono ?_); rintro e hp ⟨rfl, hb⟩; refine ⟨_, rfl, ?_⟩; replace bd := nblk bd hb; replace bj := nblk bj hb; replace HB := nbs HB hb; (try clear hb); obtain ⟨jF, jG, jH, jI, jJ, jK⟩ := c6e bj; obtain ⟨jL, jM, jN, jO, jP, jQ⟩ := z6_ bj))
      refine bodyPost_ret (results_cell_row rfl _ _ bR 29 #[.int .i64 dF, .bool dG, .int .i64 dH, .int .i64 dI, .int .i64 dJ, .int .i64 dK] (0, 0) _ rfl (q6 bj) Try.underlying29 rfl (by kernel_rfl)) rfl ?_; exact ⟨er_, nbe HB⟩
     ·rw [if_neg c36] at H
      have c36b0 : decide (a0_3 < bC) = false := decide_eq_false c36; clear c36; simp only [Option.some.injEq, Prod.mk.injEq] at H; obtain ⟨rfl, rfl, rfl, rfl, rfl, rfl⟩ := H; have gm := bK.out; have gn := bJ.out; obtain ⟨gp, gq, gr, gs, gt, gu⟩ := c6e bd; obtain ⟨gv, gw, gx, gy, gz, gA⟩ := z6_ bd
      go_wp2_with (first | ((with_reducible refine gate_callee (f := 75) rfl ?_); refine goesM (some 34) rfl rfl Try.func75 (by kernel_rfl) rfl #[.int .i64 a0_0, .int .i64 (wrap64 (a0_0 + a1))] rfl ?_; (with_reducible refine (spec_Wide.calls kj2 a0_0 (wrap64 (a0_0 + a1)) bB bC _ A27.out).mono ?_); rintro e hq ⟨rfl, hb⟩; refine ⟨_, rfl, ?_⟩; replace bd := nblk bd hb; replace bj := nblk bj hb; replace HB := nbs HB hb; (try clear hb); obtain ⟨hr, hs, ht, hu, hv, hw⟩ := c6e bd; obtain ⟨hx, hy, hz, hA, hB, hC⟩ := z6_ bd; obtain ⟨jR, jS, jT, jU, jV, jW⟩ := c6e bj; obtain ⟨jX, jY, jZ, j1, j2, j3⟩ := z6_ bj))
      refine bodyPost_ret (results_cell_row rfl _ _ bR 29 #[.int .i64 a0_0, .bool a0_1, .int .i64 bB, .int .i64 bC, .int .i64 a0_4, .int .i64 a0_5] (0, 0) _ rfl (p6 bj (k2_ bJ.out (nb bj))) Try.underlying29 rfl (by kernel_rfl)) rfl ?_; exact ⟨er_, nbe HB⟩
/-! ### spec_l4Sealer: function 76 -/
def spec_l4Sealer.f (k : Nat) (a0_0 : Int) (a0_1 : Bool) (a0_2 : Int) (a0_3 : Int) (a0_4 : Int) (a0_5 : Int) : Option (Bool) := (spec_l4Open.f k a0_0 a0_1 a0_2 a0_3 a0_4 a0_5).bind fun bN => (if bN = true then (if (Go.bits .and .i64 a0_4 32) = 0 then (some false) else (if a0_0 ≥ a0_2 then (if a0_0 < a0_3 then ((spec_l1In.f a0_0 1 7).bind fun bw => (some bw)) else (some false)) else (some false))) else (some false))
theorem spec_l4Sealer.mono : ∀ a0 a1 a2 a3 a4 a5 k, LeO (spec_l4Sealer.f k a0 a1 a2 a3 a4 a5) (spec_l4Sealer.f (k + 1) a0 a1 a2 a3 a4 a5) := by
 intro a0 a1 a2 a3 a4 a5 k
 unfold spec_l4Sealer.f
 repeat' first
   | (with_reducible exact spec_l4Open.mono _ _ _ _ _ _ _)
   | (with_reducible exact LeO.refl _)
   | (with_reducible exact LeO.none _)
   | (with_reducible refine LeO.ite ?_ ?_)
   | (with_reducible refine LeO.bind ?_ (fun _ => ?_))
   | exact spec_l4Open.mono _ _ _ _ _ _ _
   | exact LeO.none _
   | refine LeO.ite ?_ ?_
   | refine LeO.bind ?_ (fun _ => ?_)
set_option maxHeartbeats 8000000 in
set_option maxRecDepth 100000 in
theorem spec_l4Sealer.calls (k : Nat) (a0_0 : Int) (a0_1 : Bool) (a0_2 : Int) (a0_3 : Int) (a0_4 : Int) (a0_5 : Int) (r : Bool) (w : World) (h : spec_l4Sealer.f k a0_0 a0_1 a0_2 a0_3 a0_4 a0_5 = some r) :
  Calls Try.prog 76 #[.agg #[.int .i64 a0_0, .bool a0_1, .int .i64 a0_2, .int .i64 a0_3, .int .i64 a0_4, .int .i64 a0_5]] w fun e w' => e = .returned (.bool r) ∧ Below w.heap.size w w' := by
 have hu29 := Try.underlying29; have H := h; clear h; unfold spec_l4Sealer.f at H; (try dsimp only at H); replace H := Option.bind_eq_some_iff.mp H; obtain ⟨bN, A20, H⟩ := H; (try dsimp only at H); have A2 := Aside0.mk A20; clear A20
 by_cases c3 : bN = true
 ·subst c3
  rw [if_pos rfl] at H; (try dsimp only at H)
  by_cases c4 : (Go.bits .and .i64 a0_4 32) = 0
  ·rw [if_pos c4] at H
   have c4b0 : ((Go.bits .and .i64 a0_4 32) == 0) = true := beq_iff_eq.mpr c4; have c4b1 : ((Go.bits .and .i64 a0_4 32) != 0) = false := bne_eq_false_iff_eq.mpr c4; clear c4; obtain rfl := Option.some.inj H
   go_enter Try.func76, Try.ntmps76
   go_wp2_with (first | (go_at_call 54; (with_reducible refine dmn (spec_l4Open.calls (h := A2.out) (w := _)) ?_); intro x1 hb1 hc; have hw := dsz (n := w.heap.size + 1) hb1; have z := dl1 hw))
   go_ret; exact ⟨er_, dfi⟩
  ·rw [if_neg c4] at H
   have c4b0 : ((Go.bits .and .i64 a0_4 32) == 0) = false := beq_eq_false_iff_ne.mpr c4; have c4b1 : ((Go.bits .and .i64 a0_4 32) != 0) = true := bne_iff_ne.mpr c4
   by_cases c9 : a0_0 ≥ a0_2
   ·rw [if_pos c9] at H
    have c9b0 : decide (a0_2 ≤ a0_0) = true := decide_eq_true c9; clear c9
    by_cases c10 : a0_0 < a0_3
    ·rw [if_pos c10] at H
     have c10b0 : decide (a0_0 < a0_3) = true := decide_eq_true c10; clear c10; replace H := Option.bind_eq_some_iff.mp H; obtain ⟨bw, A110, H⟩ := H; (try dsimp only at H); have A11 := Aside0.mk A110; clear A110; obtain rfl := Option.some.inj H
     go_enter Try.func76, Try.ntmps76
     go_wp2_with (first | (go_at_call 54; (with_reducible refine dmn (spec_l4Open.calls (h := A2.out) (w := _)) ?_); intro x1 hb1 hc; have hw := dsz (n := w.heap.size + 1) hb1; have z := dl1 hw) | (go_at_call 32; (with_reducible refine (spec_l1In.calls (h := A11.out) (w := _)).mono ?_); rintro e w' ⟨rfl, ⟨nd_, rfl⟩⟩))
     go_ret; exact ⟨er_, dfi⟩
    ·rw [if_neg c10] at H
     have c10b0 : decide (a0_0 < a0_3) = false := decide_eq_false c10; clear c10; obtain rfl := Option.some.inj H
     go_enter Try.func76, Try.ntmps76
     go_wp2_with (first | (go_at_call 54; (with_reducible refine dmn (spec_l4Open.calls (h := A2.out) (w := _)) ?_); intro x1 hb1 hc; have hw := dsz (n := w.heap.size + 1) hb1; have z := dl1 hw))
     go_ret; exact ⟨er_, dfi⟩
   ·rw [if_neg c9] at H
    have c9b0 : decide (a0_2 ≤ a0_0) = false := decide_eq_false c9; clear c9; obtain rfl := Option.some.inj H
    go_enter Try.func76, Try.ntmps76
    go_wp2_with (first | (go_at_call 54; (with_reducible refine dmn (spec_l4Open.calls (h := A2.out) (w := _)) ?_); intro x1 hb1 hc; have hw := dsz (n := w.heap.size + 1) hb1; have z := dl1 hw))
    go_ret; exact ⟨er_, dfi⟩
 ·replace c3 := Bool.eq_false_iff.mpr c3
  subst c3; rw [if_neg (show ¬ (false = true) by decide)] at H; (try dsimp only at H); obtain rfl := Option.some.inj H
  go_enter Try.func76, Try.ntmps76
  go_wp2_with (first | (go_at_call 54; (with_reducible refine dmn (spec_l4Open.calls (h := A2.out) (w := _)) ?_); intro x1 hb1 hc; have hw := dsz (n := w.heap.size + 1) hb1; have z := dl1 hw))
  go_ret; exact ⟨er_, dfi⟩
/-! ### spec_SealBy: function 58 -/
def spec_SealBy.f (k : Nat) (a0_0 : Int) (a0_1 : Bool) (a0_2 : Int) (a0_3 : Int) (a0_4 : Int) (a0_5 : Int) (a1_0 : Int) (a1_1 : Bool) (a1_2 : Int) (a1_3 : Int) (a1_4 : Int) (a1_5 : Int) : Option (Int × Bool × Int × Int × Int × Int) := (spec_l4Open.f k a0_0 a0_1 a0_2 a0_3 a0_4 a0_5).bind fun bO => (if bO = true then ((spec_l4Sealer.f k a1_0 a1_1 a1_2 a1_3 a1_4 a1_5).bind fun bx => (if bx = true then (some (a0_0, a0_1, a0_2, a0_3, a0_4, a1_0)) else ((spec_Bare.f a0_0 a0_1 a0_2 a0_3 a0_4 a0_5).bind fun bi => (some (bi.1, bi.2.1, bi.2.2.1, bi.2.2.2.1, bi.2.2.2.2.1, bi.2.2.2.2.2))))) else ((spec_Bare.f a0_0 a0_1 a0_2 a0_3 a0_4 a0_5).bind fun bn => (some (bn.1, bn.2.1, bn.2.2.1, bn.2.2.2.1, bn.2.2.2.2.1, bn.2.2.2.2.2))))
theorem spec_SealBy.mono : ∀ a0 a1 a2 a3 a4 a5 a6 a7 a8 a9 a10 a11 k, LeO (spec_SealBy.f k a0 a1 a2 a3 a4 a5 a6 a7 a8 a9 a10 a11) (spec_SealBy.f (k + 1) a0 a1 a2 a3 a4 a5 a6 a7 a8 a9 a10 a11) := by
 intro a0 a1 a2 a3 a4 a5 a6 a7 a8 a9 a10 a11 k
 unfold spec_SealBy.f
 repeat' first
   | (with_reducible exact spec_l4Open.mono _ _ _ _ _ _ _)
   | (with_reducible exact spec_l4Sealer.mono _ _ _ _ _ _ _)
   | (with_reducible exact LeO.refl _)
   | (with_reducible exact LeO.none _)
   | (with_reducible refine LeO.ite ?_ ?_)
   | (with_reducible refine LeO.bind ?_ (fun _ => ?_))
   | exact spec_l4Open.mono _ _ _ _ _ _ _
   | exact spec_l4Sealer.mono _ _ _ _ _ _ _
   | exact LeO.none _
   | refine LeO.ite ?_ ?_
   | refine LeO.bind ?_ (fun _ => ?_)
set_option maxHeartbeats 8000000 in
set_option maxRecDepth 100000 in
theorem spec_SealBy.calls (k : Nat) (a0_0 : Int) (a0_1 : Bool) (a0_2 : Int) (a0_3 : Int) (a0_4 : Int) (a0_5 : Int) (a1_0 : Int) (a1_1 : Bool) (a1_2 : Int) (a1_3 : Int) (a1_4 : Int) (a1_5 : Int) (r1 : Int) (r2 : Bool) (r3 : Int) (r4 : Int) (r5 : Int) (r6 : Int) (w : World) (h : spec_SealBy.f k a0_0 a0_1 a0_2 a0_3 a0_4 a0_5 a1_0 a1_1 a1_2 a1_3 a1_4 a1_5 = some (r1, r2, r3, r4, r5, r6)) :
  Calls Try.prog 58 #[.agg #[.int .i64 a0_0, .bool a0_1, .int .i64 a0_2, .int .i64 a0_3, .int .i64 a0_4, .int .i64 a0_5], .agg #[.int .i64 a1_0, .bool a1_1, .int .i64 a1_2, .int .i64 a1_3, .int .i64 a1_4, .int .i64 a1_5]] w fun e w' => e = .returned (.agg #[.int .i64 r1, .bool r2, .int .i64 r3, .int .i64 r4, .int .i64 r5, .int .i64 r6]) ∧ Below w.heap.size w w' := by
 have hu29 := Try.underlying29; have H := h; clear h; unfold spec_SealBy.f at H; (try dsimp only at H); replace H := Option.bind_eq_some_iff.mp H; obtain ⟨bO, A30, H⟩ := H; (try dsimp only at H); have A3 := Aside0.mk A30; clear A30
 by_cases c4 : bO = true
 ·subst c4
  rw [if_pos rfl] at H; (try dsimp only at H); replace H := Option.bind_eq_some_iff.mp H; obtain ⟨bx, A50, H⟩ := H; (try dsimp only at H); have A5 := Aside0.mk A50; clear A50
  by_cases c6 : bx = true
  ·subst c6
   rw [if_pos rfl] at H; (try dsimp only at H); simp only [Option.some.injEq, Prod.mk.injEq] at H; obtain ⟨rfl, rfl, rfl, rfl, rfl, rfl⟩ := H
   go_enter Try.func58, Try.ntmps58
   go_wp2_with (first | (go_at_call 54; (with_reducible refine dmn (spec_l4Open.calls (h := A3.out) (w := _)) ?_); intro x1 hb1 hc; have hw := dsz (n := w.heap.size + 1 + 1 + 1) hb1; have z := dl3 hw) | (go_at_call 76; (with_reducible refine dmn (spec_l4Sealer.calls (h := A5.out) (w := _)) ?_); intro x2 hb2 hc; have hw := dsz (n := w.heap.size + 1 + 1 + 1) hb2; have z := dl3 hw))
   refine bodyPost_ret (drc rfl _ _ rfl (by go_simp; rfl)) rfl ?_; exact ⟨rfl, dfi⟩
  ·replace c6 := Bool.eq_false_iff.mpr c6
   subst c6; rw [if_neg (show ¬ (false = true) by decide)] at H; (try dsimp only at H); replace H := Option.bind_eq_some_iff.mp H; obtain ⟨⟨dL, dM, dN, dO, dP, dQ⟩, A200, H⟩ := H; (try dsimp only at H); have A20 := Aside0.mk A200; clear A200; simp only [Option.some.injEq, Prod.mk.injEq] at H; obtain ⟨rfl, rfl, rfl, rfl, rfl, rfl⟩ := H
   go_enter Try.func58, Try.ntmps58
   go_wp2_with (first | (go_at_call 54; (with_reducible refine dmn (spec_l4Open.calls (h := A3.out) (w := _)) ?_); intro x1 hb1 hc; have hw := dsz (n := w.heap.size + 1 + 1 + 1) hb1; have z := dl3 hw) | (go_at_call 76; (with_reducible refine dmn (spec_l4Sealer.calls (h := A5.out) (w := _)) ?_); intro x2 hb2 hc; have hw := dsz (n := w.heap.size + 1 + 1 + 1) hb2; have z := dl3 hw) | (go_at_call 73; (with_reducible refine dmn (spec_Bare.calls (h := A20.out) (w := _)) ?_); intro x3 hb3 hc; have hw := dsz (n := w.heap.size + 1 + 1 + 1) hb3; have z := dl3 hw))
   refine bodyPost_ret (drc rfl _ _ rfl (by go_simp; rfl)) rfl ?_; exact ⟨rfl, dfi⟩
 ·replace c4 := Bool.eq_false_iff.mpr c4
  subst c4; rw [if_neg (show ¬ (false = true) by decide)] at H; (try dsimp only at H); replace H := Option.bind_eq_some_iff.mp H; obtain ⟨⟨dR, dS, dT, dU, dV, dW⟩, A340, H⟩ := H; (try dsimp only at H); have A34 := Aside0.mk A340; clear A340; simp only [Option.some.injEq, Prod.mk.injEq] at H; obtain ⟨rfl, rfl, rfl, rfl, rfl, rfl⟩ := H
  go_enter Try.func58, Try.ntmps58
  go_wp2_with (first | (go_at_call 54; (with_reducible refine dmn (spec_l4Open.calls (h := A3.out) (w := _)) ?_); intro x1 hb1 hc; have hw := dsz (n := w.heap.size + 1 + 1 + 1) hb1; have z := dl3 hw) | (go_at_call 73; (with_reducible refine dmn (spec_Bare.calls (h := A34.out) (w := _)) ?_); intro x2 hb2 hc; have hw := dsz (n := w.heap.size + 1 + 1 + 1) hb2; have z := dl3 hw))
  refine bodyPost_ret (drc rfl _ _ rfl (by go_simp; rfl)) rfl ?_; exact ⟨rfl, dfi⟩
/-! ### spec_OpenBy: function 59 -/
def spec_OpenBy.f (k : Nat) (a0_0 : Int) (a0_1 : Bool) (a0_2 : Int) (a0_3 : Int) (a0_4 : Int) (a0_5 : Int) (a1_0 : Int) (a1_1 : Bool) (a1_2 : Int) (a1_3 : Int) (a1_4 : Int) (a1_5 : Int) : Option (Int × Bool × Int × Int × Int × Int) := (spec_WordOk.f k a0_0 a0_1 a0_2 a0_3 a0_4 a0_5).bind fun bQ => (if bQ = true then (if a0_1 = true then ((spec_l4Sealer.f k a1_0 a1_1 a1_2 a1_3 a1_4 a1_5).bind fun bu => (if bu = true then (if a0_5 = a1_0 then (some (a0_0, a0_1, a0_2, a0_3, a0_4, 0)) else ((spec_Bare.f a0_0 a0_1 a0_2 a0_3 a0_4 a0_5).bind fun bf => (some (bf.1, bf.2.1, bf.2.2.1, bf.2.2.2.1, bf.2.2.2.2.1, bf.2.2.2.2.2)))) else ((spec_Bare.f a0_0 a0_1 a0_2 a0_3 a0_4 a0_5).bind fun bg => (some (bg.1, bg.2.1, bg.2.2.1, bg.2.2.2.1, bg.2.2.2.2.1, bg.2.2.2.2.2))))) else ((spec_Bare.f a0_0 a0_1 a0_2 a0_3 a0_4 a0_5).bind fun bl => (some (bl.1, bl.2.1, bl.2.2.1, bl.2.2.2.1, bl.2.2.2.2.1, bl.2.2.2.2.2)))) else ((spec_Bare.f a0_0 a0_1 a0_2 a0_3 a0_4 a0_5).bind fun bo => (some (bo.1, bo.2.1, bo.2.2.1, bo.2.2.2.1, bo.2.2.2.2.1, bo.2.2.2.2.2))))
theorem spec_OpenBy.mono : ∀ a0 a1 a2 a3 a4 a5 a6 a7 a8 a9 a10 a11 k, LeO (spec_OpenBy.f k a0 a1 a2 a3 a4 a5 a6 a7 a8 a9 a10 a11) (spec_OpenBy.f (k + 1) a0 a1 a2 a3 a4 a5 a6 a7 a8 a9 a10 a11) := by
 intro a0 a1 a2 a3 a4 a5 a6 a7 a8 a9 a10 a11 k
 unfold spec_OpenBy.f
 repeat' first
   | (with_reducible exact spec_WordOk.mono _ _ _ _ _ _ _)
   | (with_reducible exact spec_l4Sealer.mono _ _ _ _ _ _ _)
   | (with_reducible exact LeO.refl _)
   | (with_reducible exact LeO.none _)
   | (with_reducible refine LeO.ite ?_ ?_)
   | (with_reducible refine LeO.bind ?_ (fun _ => ?_))
   | exact spec_WordOk.mono _ _ _ _ _ _ _
   | exact spec_l4Sealer.mono _ _ _ _ _ _ _
   | exact LeO.none _
   | refine LeO.ite ?_ ?_
   | refine LeO.bind ?_ (fun _ => ?_)
set_option maxHeartbeats 8000000 in
set_option maxRecDepth 100000 in
theorem spec_OpenBy.calls (k : Nat) (a0_0 : Int) (a0_1 : Bool) (a0_2 : Int) (a0_3 : Int) (a0_4 : Int) (a0_5 : Int) (a1_0 : Int) (a1_1 : Bool) (a1_2 : Int) (a1_3 : Int) (a1_4 : Int) (a1_5 : Int) (r1 : Int) (r2 : Bool) (r3 : Int) (r4 : Int) (r5 : Int) (r6 : Int) (w : World) (h : spec_OpenBy.f k a0_0 a0_1 a0_2 a0_3 a0_4 a0_5 a1_0 a1_1 a1_2 a1_3 a1_4 a1_5 = some (r1, r2, r3, r4, r5, r6)) :
  Calls Try.prog 59 #[.agg #[.int .i64 a0_0, .bool a0_1, .int .i64 a0_2, .int .i64 a0_3, .int .i64 a0_4, .int .i64 a0_5], .agg #[.int .i64 a1_0, .bool a1_1, .int .i64 a1_2, .int .i64 a1_3, .int .i64 a1_4, .int .i64 a1_5]] w fun e w' => e = .returned (.agg #[.int .i64 r1, .bool r2, .int .i64 r3, .int .i64 r4, .int .i64 r5, .int .i64 r6]) ∧ Below w.heap.size w w' := by
 have hu29 := Try.underlying29; have H := h; clear h; unfold spec_OpenBy.f at H; (try dsimp only at H); replace H := Option.bind_eq_some_iff.mp H; obtain ⟨bQ, A30, H⟩ := H; (try dsimp only at H); have A3 := Aside0.mk A30; clear A30
 by_cases c4 : bQ = true
 ·subst c4
  rw [if_pos rfl] at H; (try dsimp only at H)
  by_cases c5 : a0_1 = true
  ·subst c5
   rw [if_pos rfl] at H; (try dsimp only at H); replace H := Option.bind_eq_some_iff.mp H; obtain ⟨bu, A60, H⟩ := H; (try dsimp only at H); have A6 := Aside0.mk A60; clear A60
   by_cases c7 : bu = true
   ·subst c7
    rw [if_pos rfl] at H; (try dsimp only at H)
    by_cases c8 : a0_5 = a1_0
    ·rw [if_pos c8] at H
     have c8b0 : (a0_5 == a1_0) = true := beq_iff_eq.mpr c8; have c8b1 : (a0_5 != a1_0) = false := bne_eq_false_iff_eq.mpr c8; clear c8; simp only [Option.some.injEq, Prod.mk.injEq] at H; obtain ⟨rfl, rfl, rfl, rfl, rfl, rfl⟩ := H
     go_enter Try.func59, Try.ntmps59
     go_wp2_with (first | (go_at_call 11; (with_reducible refine dmn (spec_WordOk.calls (h := A3.out) (w := _)) ?_); intro x1 hb1 hc; have hw := dsz (n := w.heap.size + 1 + 1 + 1) hb1; have z := dl3 hw) | (go_at_call 76; (with_reducible refine dmn (spec_l4Sealer.calls (h := A6.out) (w := _)) ?_); intro x2 hb2 hc; have hw := dsz (n := w.heap.size + 1 + 1 + 1) hb2; have z := dl3 hw))
     refine bodyPost_ret (drc rfl _ _ rfl (by go_simp; rfl)) rfl ?_; exact ⟨rfl, dfi⟩
    ·rw [if_neg c8] at H
     have c8b0 : (a0_5 == a1_0) = false := beq_eq_false_iff_ne.mpr c8; have c8b1 : (a0_5 != a1_0) = true := bne_iff_ne.mpr c8; replace H := Option.bind_eq_some_iff.mp H; obtain ⟨⟨dX, dY, dZ, d0, d1, d2⟩, A230, H⟩ := H; (try dsimp only at H); have A23 := Aside0.mk A230; clear A230; simp only [Option.some.injEq, Prod.mk.injEq] at H; obtain ⟨rfl, rfl, rfl, rfl, rfl, rfl⟩ := H
     go_enter Try.func59, Try.ntmps59
     go_wp2_with (first | (go_at_call 11; (with_reducible refine dmn (spec_WordOk.calls (h := A3.out) (w := _)) ?_); intro x1 hb1 hc; have hw := dsz (n := w.heap.size + 1 + 1 + 1) hb1; have z := dl3 hw) | (go_at_call 76; (with_reducible refine dmn (spec_l4Sealer.calls (h := A6.out) (w := _)) ?_); intro x2 hb2 hc; have hw := dsz (n := w.heap.size + 1 + 1 + 1) hb2; have z := dl3 hw) | (go_at_call 73; (with_reducible refine dmn (spec_Bare.calls (h := A23.out) (w := _)) ?_); intro x3 hb3 hc; have hw := dsz (n := w.heap.size + 1 + 1 + 1) hb3; have z := dl3 hw))
     refine bodyPost_ret (drc rfl _ _ rfl (by go_simp; rfl)) rfl ?_; exact ⟨rfl, dfi⟩
   ·replace c7 := Bool.eq_false_iff.mpr c7
    subst c7; rw [if_neg (show ¬ (false = true) by decide)] at H; (try dsimp only at H); replace H := Option.bind_eq_some_iff.mp H; obtain ⟨⟨d3, d4, d5, d6, d7, d8⟩, A390, H⟩ := H; (try dsimp only at H); have A39 := Aside0.mk A390; clear A390; simp only [Option.some.injEq, Prod.mk.injEq] at H; obtain ⟨rfl, rfl, rfl, rfl, rfl, rfl⟩ := H
    go_enter Try.func59, Try.ntmps59
    go_wp2_with (first | (go_at_call 11; (with_reducible refine dmn (spec_WordOk.calls (h := A3.out) (w := _)) ?_); intro x1 hb1 hc; have hw := dsz (n := w.heap.size + 1 + 1 + 1) hb1; have z := dl3 hw) | (go_at_call 76; (with_reducible refine dmn (spec_l4Sealer.calls (h := A6.out) (w := _)) ?_); intro x2 hb2 hc; have hw := dsz (n := w.heap.size + 1 + 1 + 1) hb2; have z := dl3 hw) | (go_at_call 73; (with_reducible refine dmn (spec_Bare.calls (h := A39.out) (w := _)) ?_); intro x3 hb3 hc; have hw := dsz (n := w.heap.size + 1 + 1 + 1) hb3; have z := dl3 hw))
    refine bodyPost_ret (drc rfl _ _ rfl (by go_simp; rfl)) rfl ?_; exact ⟨rfl, dfi⟩
  ·replace c5 := Bool.eq_false_iff.mpr c5
   subst c5; rw [if_neg (show ¬ (false = true) by decide)] at H; (try dsimp only at H); replace H := Option.bind_eq_some_iff.mp H; obtain ⟨⟨d9, ea, eb, ec, ed, ee⟩, A540, H⟩ := H; (try dsimp only at H); have A54 := Aside0.mk A540; clear A540; simp only [Option.some.injEq, Prod.mk.injEq] at H; obtain ⟨rfl, rfl, rfl, rfl, rfl, rfl⟩ := H
   go_enter Try.func59, Try.ntmps59
   go_wp2_with (first | (go_at_call 11; (with_reducible refine dmn (spec_WordOk.calls (h := A3.out) (w := _)) ?_); intro x1 hb1 hc; have hw := dsz (n := w.heap.size + 1 + 1 + 1) hb1; have z := dl3 hw) | (go_at_call 73; (with_reducible refine dmn (spec_Bare.calls (h := A54.out) (w := _)) ?_); intro x2 hb2 hc; have hw := dsz (n := w.heap.size + 1 + 1 + 1) hb2; have z := dl3 hw))
   refine bodyPost_ret (drc rfl _ _ rfl (by go_simp; rfl)) rfl ?_; exact ⟨rfl, dfi⟩
 ·replace c4 := Bool.eq_false_iff.mpr c4
  subst c4; rw [if_neg (show ¬ (false = true) by decide)] at H; (try dsimp only at H); replace H := Option.bind_eq_some_iff.mp H; obtain ⟨⟨ef, eg, eh, ei, ej, ek⟩, A660, H⟩ := H; (try dsimp only at H); have A66 := Aside0.mk A660; clear A660; simp only [Option.some.injEq, Prod.mk.injEq] at H; obtain ⟨rfl, rfl, rfl, rfl, rfl, rfl⟩ := H
  go_enter Try.func59, Try.ntmps59
  go_wp2_with (first | (go_at_call 11; (with_reducible refine dmn (spec_WordOk.calls (h := A3.out) (w := _)) ?_); intro x1 hb1 hc; have hw := dsz (n := w.heap.size + 1 + 1 + 1) hb1; have z := dl3 hw) | (go_at_call 73; (with_reducible refine dmn (spec_Bare.calls (h := A66.out) (w := _)) ?_); intro x2 hb2 hc; have hw := dsz (n := w.heap.size + 1 + 1 + 1) hb2; have z := dl3 hw))
  refine bodyPost_ret (drc rfl _ _ rfl (by go_simp; rfl)) rfl ?_; exact ⟨rfl, dfi⟩
end Go.Proofs.Ytpcladboobfkhaa.PFnWork
