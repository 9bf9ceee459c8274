-- Written by a program of this session (wip/patch.py turns a copy of the kit's print): the functions that the law reaches, and their walks.
import Derived.Test.YtiliggbholjdjaaPFnSealedx0
import Derived.Test.YtiliggbholjdjaaPFnSealedx3
import Derived.Test.YtiliggbholjdjaaPFnSealedx8
import Derived.Test.YtiliggbholjdjaaCFnSealed
namespace Go.Proofs.Ytiliggbholjdjaa.PFnSealed
open Go.RowKit Go.Proofs.YtiliggbholjdjaaW.PrintWords Go.Proofs.YtiliggbholjdjaaW.PrintLast Go.Proofs.YtiliggbholjdjaaW.PrintMore Go.Proofs.YtiliggbholjdjaaW.Mine
attribute [local go_sem] max2_int min2_int max_two min_two max_three min_three max_four min_four   -- for this text's walks alone
set_option linter.unusedVariables false
set_option linter.unusedSimpArgs false

/-! ### spec_SealBy: function 23 -/
def spec_SealBy.f (k : Nat) (a0_0 : Int) (a0_1 : Bool) (a0_2 : Int) (a0_3 : Int) (a0_4 : Int) (a0_5 : Int) (a1_0 : Int) (a1_1 : Bool) (a1_2 : Int) (a1_3 : Int) (a1_4 : Int) (a1_5 : Int) : Option (Int × Bool × Int × Int × Int × Int) := (spec_l4Open.f k a0_0 a0_1 a0_2 a0_3 a0_4 a0_5).bind fun bj => (if bj = true then ((spec_l4Sealer.f k a1_0 a1_1 a1_2 a1_3 a1_4 a1_5).bind fun bh => (if bh = true then (some (a0_0, a0_1, a0_2, a0_3, a0_4, a1_0)) else ((spec_Bare.f a0_0 a0_1 a0_2 a0_3 a0_4 a0_5).bind fun bb => (some (bb.1, bb.2.1, bb.2.2.1, bb.2.2.2.1, bb.2.2.2.2.1, bb.2.2.2.2.2))))) else ((spec_Bare.f a0_0 a0_1 a0_2 a0_3 a0_4 a0_5).bind fun bd => (some (bd.1, bd.2.1, bd.2.2.1, bd.2.2.2.1, bd.2.2.2.2.1, bd.2.2.2.2.2))))
theorem spec_SealBy.mono : ∀ a0 a1 a2 a3 a4 a5 a6 a7 a8 a9 a10 a11 k, LeO (spec_SealBy.f k a0 a1 a2 a3 a4 a5 a6 a7 a8 a9 a10 a11) (spec_SealBy.f (k + 1) a0 a1 a2 a3 a4 a5 a6 a7 a8 a9 a10 a11) := by
 intro a0 a1 a2 a3 a4 a5 a6 a7 a8 a9 a10 a11 k
 unfold spec_SealBy.f
 repeat' first
   | (with_reducible exact spec_l4Open.mono _ _ _ _ _ _ _)
   | (with_reducible exact spec_l4Sealer.mono _ _ _ _ _ _ _)
   | (with_reducible exact LeO.refl _)
   | (with_reducible exact LeO.none _)
   | (with_reducible refine LeO.ite ?_ ?_)
   | (with_reducible refine LeO.bind ?_ (fun _ => ?_))
   | exact spec_l4Open.mono _ _ _ _ _ _ _
   | exact spec_l4Sealer.mono _ _ _ _ _ _ _
   | exact LeO.none _
   | refine LeO.ite ?_ ?_
   | refine LeO.bind ?_ (fun _ => ?_)
set_option maxHeartbeats 8000000 in
set_option maxRecDepth 100000 in
theorem spec_SealBy.calls (k : Nat) (a0_0 : Int) (a0_1 : Bool) (a0_2 : Int) (a0_3 : Int) (a0_4 : Int) (a0_5 : Int) (a1_0 : Int) (a1_1 : Bool) (a1_2 : Int) (a1_3 : Int) (a1_4 : Int) (a1_5 : Int) (r1 : Int) (r2 : Bool) (r3 : Int) (r4 : Int) (r5 : Int) (r6 : Int) (w : World) (h : spec_SealBy.f k a0_0 a0_1 a0_2 a0_3 a0_4 a0_5 a1_0 a1_1 a1_2 a1_3 a1_4 a1_5 = some (r1, r2, r3, r4, r5, r6)) :
  Calls Try.prog 23 #[.agg #[.int .i64 a0_0, .bool a0_1, .int .i64 a0_2, .int .i64 a0_3, .int .i64 a0_4, .int .i64 a0_5], .agg #[.int .i64 a1_0, .bool a1_1, .int .i64 a1_2, .int .i64 a1_3, .int .i64 a1_4, .int .i64 a1_5]] w fun e w' => e = .returned (.agg #[.int .i64 r1, .bool r2, .int .i64 r3, .int .i64 r4, .int .i64 r5, .int .i64 r6]) ∧ Below w.heap.size w w' := by
 have hu27 := Try.underlying27; have HB := Aside0.mk (Below.refl w.heap.size w); have H : ((spec_l4Open.f k a0_0 a0_1 a0_2 a0_3 a0_4 a0_5).bind fun bj => (if bj = true then ((spec_l4Sealer.f k a1_0 a1_1 a1_2 a1_3 a1_4 a1_5).bind fun bh => (if bh = true then (some (a0_0, a0_1, a0_2, a0_3, a0_4, a1_0)) else ((spec_Bare.f a0_0 a0_1 a0_2 a0_3 a0_4 a0_5).bind fun bb => (some (bb.1, bb.2.1, bb.2.2.1, bb.2.2.2.1, bb.2.2.2.2.1, bb.2.2.2.2.2))))) else ((spec_Bare.f a0_0 a0_1 a0_2 a0_3 a0_4 a0_5).bind fun bd => (some (bd.1, bd.2.1, bd.2.2.1, bd.2.2.2.1, bd.2.2.2.2.1, bd.2.2.2.2.2))))) = some (r1, r2, r3, r4, r5, r6) := h; clear h; replace H := Option.bind_eq_some_iff.mp H; obtain ⟨bj, A30, H⟩ := H; replace H : (if bj = true then ((spec_l4Sealer.f k a1_0 a1_1 a1_2 a1_3 a1_4 a1_5).bind fun bh => (if bh = true then (some (a0_0, a0_1, a0_2, a0_3, a0_4, a1_0)) else ((spec_Bare.f a0_0 a0_1 a0_2 a0_3 a0_4 a0_5).bind fun bb => (some (bb.1, bb.2.1, bb.2.2.1, bb.2.2.2.1, bb.2.2.2.2.1, bb.2.2.2.2.2))))) else ((spec_Bare.f a0_0 a0_1 a0_2 a0_3 a0_4 a0_5).bind fun bd => (some (bd.1, bd.2.1, bd.2.2.1, bd.2.2.2.1, bd.2.2.2.2.1, bd.2.2.2.2.2)))) = some (r1, r2, r3, r4, r5, r6) := H; have A3 := Aside0.mk A30; clear A30
 by_cases c4 : bj = true
 ·subst c4
  have H1 : ((spec_l4Sealer.f k a1_0 a1_1 a1_2 a1_3 a1_4 a1_5).bind fun bh => (if bh = true then (some (a0_0, a0_1, a0_2, a0_3, a0_4, a1_0)) else ((spec_Bare.f a0_0 a0_1 a0_2 a0_3 a0_4 a0_5).bind fun bb => (some (bb.1, bb.2.1, bb.2.2.1, bb.2.2.2.1, bb.2.2.2.2.1, bb.2.2.2.2.2))))) = some (r1, r2, r3, r4, r5, r6) := by rw [if_pos rfl] at H; exact H
  clear H; have H := H1; clear H1; replace H := Option.bind_eq_some_iff.mp H; obtain ⟨bh, A50, H⟩ := H; replace H : (if bh = true then (some (a0_0, a0_1, a0_2, a0_3, a0_4, a1_0)) else ((spec_Bare.f a0_0 a0_1 a0_2 a0_3 a0_4 a0_5).bind fun bb => (some (bb.1, bb.2.1, bb.2.2.1, bb.2.2.2.1, bb.2.2.2.2.1, bb.2.2.2.2.2)))) = some (r1, r2, r3, r4, r5, r6) := H; have A5 := Aside0.mk A50; clear A50
  by_cases c6 : bh = true
  ·subst c6
   have H1 : (some (a0_0, a0_1, a0_2, a0_3, a0_4, a1_0)) = some (r1, r2, r3, r4, r5, r6) := by rw [if_pos rfl] at H; exact H
   clear H; have H := H1; clear H1; simp only [Option.some.injEq, Prod.mk.injEq] at H; obtain ⟨rfl, rfl, rfl, rfl, rfl, rfl⟩ := H
   go_enter Try.func23, Try.ntmps23
   go_wp2_with (first | ((with_reducible refine gate_dst (N := 2) rfl ?_); refine bxe 2 #[.int .i64 a0_0, .bool a0_1, .int .i64 a0_2, .int .i64 a0_3, .int .i64 a0_4, .int .i64 a0_5] 27 ?_; intro bG hg w7 hbox hb; have ba := hbox; have bH := nge HB hg; have bI := nge HB hg; replace HB := nbs HB hb; clear hb hbox hg) | ((with_reducible refine gate_dst (N := 3) rfl ?_); refine bxe 3 #[.int .i64 a1_0, .bool a1_1, .int .i64 a1_2, .int .i64 a1_3, .int .i64 a1_4, .int .i64 a1_5] 27 ?_; intro bJ hg w8 hbox hb; have bc := hbox; have bK := nge HB hg; have bL := nge HB hg; have bl := nlt ba hg; have bm := ngt ba hg; replace ba := nblk ba hb; replace HB := nbs HB hb; clear hb hbox hg) | ((with_reducible refine gate_dst (N := 4) rfl ?_); refine bxe 4 #[.int .i64 0, .bool false, .int .i64 0, .int .i64 0, .int .i64 0, .int .i64 0] 27 ?_; intro bn hg w9 hbox hb; have bf := hbox; have bM := nge HB hg; have bN := nge HB hg; have bo := nlt ba hg; have bk := ngt ba hg; have bp := nlt bc hg; have bq := ngt bc hg; replace ba := nblk ba hb; replace bc := nblk bc hb; replace HB := nbs HB hb; clear hb hbox hg; have d4 := bl.out; have d5 := bm.out; have d6 := bo.out; have d7 := bk.out; obtain ⟨d8, d9, ea, eb, ec, ed⟩ := c6e ba; obtain ⟨ee, ef, eg, eh, ei, ej⟩ := z6_ ba) | ((with_reducible refine gate_callee (f := 67) rfl ?_); refine goesM (some 6) rfl rfl Try.func67 (by kernel_rfl) rfl #[.agg #[.int .i64 a0_0, .bool a0_1, .int .i64 a0_2, .int .i64 a0_3, .int .i64 a0_4, .int .i64 a0_5]] rfl ?_; (with_reducible refine (spec_l4Open.calls k a0_0 a0_1 a0_2 a0_3 a0_4 a0_5 true _ A3.out).mono ?_); rintro e ek ⟨rfl, hb⟩; refine ⟨_, rfl, ?_⟩; replace ba := nblk ba hb; replace bc := nblk bc hb; replace bf := nblk bf hb; replace HB := nbs HB hb; (try clear hb); have el := bp.out; have em := bq.out; obtain ⟨bO, bP, bQ, bR, bS, bT⟩ := c6e bc; obtain ⟨bU, bV, bW, bX, bY, bZ⟩ := z6_ bc) | (go_at_call 76; (with_reducible refine (spec_l4Sealer.calls k a1_0 a1_1 a1_2 a1_3 a1_4 a1_5 true _ A5.out).mono ?_); rintro e en ⟨rfl, hb⟩; replace ba := nblk ba hb; replace bc := nblk bc hb; replace bf := nblk bf hb; replace HB := nbs HB hb; (try clear hb); obtain ⟨b0, b1, b2, b3, b4, b5⟩ := c6e bc; obtain ⟨b6, b7, b8, b9, da, db⟩ := z6_ bc; obtain ⟨dc, dd, de, df, dg, dh⟩ := c6e ba; obtain ⟨di, dj, dk, dl, dm, dn⟩ := z6_ ba; obtain ⟨dp, dq, dr, ds, dt, du⟩ := c6e bf; obtain ⟨dv, dw, dx, dy, dz, dA⟩ := z6_ bf))
   refine bodyPost_ret (results_cell_row rfl _ _ bn 27 #[.int .i64 a0_0, .bool a0_1, .int .i64 a0_2, .int .i64 a0_3, .int .i64 a0_4, .int .i64 a1_0] (0, 0) _ rfl (p6 bf (k1_ bk.out (nb bf))) Try.underlying27 rfl (by kernel_rfl)) rfl ?_; exact ⟨er_, nbe HB⟩
  ·replace c6 := Bool.eq_false_iff.mpr c6
   subst c6; have H1 : ((spec_Bare.f a0_0 a0_1 a0_2 a0_3 a0_4 a0_5).bind fun bb => (some (bb.1, bb.2.1, bb.2.2.1, bb.2.2.2.1, bb.2.2.2.2.1, bb.2.2.2.2.2))) = some (r1, r2, r3, r4, r5, r6) := by rw [if_neg (show ¬ (false = true) by decide)] at H; exact H
   clear H; have H := H1; clear H1; replace H := Option.bind_eq_some_iff.mp H; obtain ⟨⟨bs, bt, bu, bv, bw, bx⟩, A200, H⟩ := H; replace H : (some (bs, bt, bu, bv, bw, bx)) = some (r1, r2, r3, r4, r5, r6) := H; have A20 := Aside0.mk A200; clear A200; simp only [Option.some.injEq, Prod.mk.injEq] at H; obtain ⟨rfl, rfl, rfl, rfl, rfl, rfl⟩ := H
   go_enter Try.func23, Try.ntmps23
   go_wp2_with (first | ((with_reducible refine gate_dst (N := 2) rfl ?_); refine bxe 2 #[.int .i64 a0_0, .bool a0_1, .int .i64 a0_2, .int .i64 a0_3, .int .i64 a0_4, .int .i64 a0_5] 27 ?_; intro bG hg eo hbox hb; have ba := hbox; have bH := nge HB hg; have bI := nge HB hg; replace HB := nbs HB hb; clear hb hbox hg) | ((with_reducible refine gate_dst (N := 3) rfl ?_); refine bxe 3 #[.int .i64 a1_0, .bool a1_1, .int .i64 a1_2, .int .i64 a1_3, .int .i64 a1_4, .int .i64 a1_5] 27 ?_; intro bJ hg ep hbox hb; have bc := hbox; have bK := nge HB hg; have bL := nge HB hg; have bl := nlt ba hg; have bm := ngt ba hg; replace ba := nblk ba hb; replace HB := nbs HB hb; clear hb hbox hg) | ((with_reducible refine gate_dst (N := 4) rfl ?_); refine bxe 4 #[.int .i64 0, .bool false, .int .i64 0, .int .i64 0, .int .i64 0, .int .i64 0] 27 ?_; intro bn hg er hbox hb; have bf := hbox; have bM := nge HB hg; have bN := nge HB hg; have bo := nlt ba hg; have bk := ngt ba hg; have bp := nlt bc hg; have bq := ngt bc hg; replace ba := nblk ba hb; replace bc := nblk bc hb; replace HB := nbs HB hb; clear hb hbox hg; have es := bl.out; have et := bm.out; have eu := bo.out; have ev := bk.out; obtain ⟨ew, ex, ey, ez, eA, eB⟩ := c6e ba; obtain ⟨eC, eD, eE, eF, eG, eH⟩ := z6_ ba) | ((with_reducible refine gate_callee (f := 67) rfl ?_); refine goesM (some 6) rfl rfl Try.func67 (by kernel_rfl) rfl #[.agg #[.int .i64 a0_0, .bool a0_1, .int .i64 a0_2, .int .i64 a0_3, .int .i64 a0_4, .int .i64 a0_5]] rfl ?_; (with_reducible refine (spec_l4Open.calls k a0_0 a0_1 a0_2 a0_3 a0_4 a0_5 true _ A3.out).mono ?_); rintro e eI ⟨rfl, hb⟩; refine ⟨_, rfl, ?_⟩; replace ba := nblk ba hb; replace bc := nblk bc hb; replace bf := nblk bf hb; replace HB := nbs HB hb; (try clear hb); have eJ := bp.out; have eK := bq.out; obtain ⟨eL, eM, eN, eO, eP, eQ⟩ := c6e bc; obtain ⟨eR, eS, eT, eU, eV, eW⟩ := z6_ bc) | (go_at_call 76; (with_reducible refine (spec_l4Sealer.calls k a1_0 a1_1 a1_2 a1_3 a1_4 a1_5 false _ A5.out).mono ?_); rintro e eX ⟨rfl, hb⟩; replace ba := nblk ba hb; replace bc := nblk bc hb; replace bf := nblk bf hb; replace HB := nbs HB hb; (try clear hb); obtain ⟨eY, eZ, e0, e1, e2, e3⟩ := c6e ba; obtain ⟨e4, e5, e6, e7, e8, e9⟩ := z6_ ba) | ((with_reducible refine gate_callee (f := 49) rfl ?_); refine goesM (some 14) rfl rfl Try.func49 (by kernel_rfl) rfl #[.agg #[.int .i64 a0_0, .bool a0_1, .int .i64 a0_2, .int .i64 a0_3, .int .i64 a0_4, .int .i64 a0_5]] rfl ?_; (with_reducible refine (spec_Bare.calls a0_0 a0_1 a0_2 a0_3 a0_4 a0_5 bs bt bu bv bw bx _ A20.out).mono ?_); rintro e ga ⟨rfl, hb⟩; refine ⟨_, rfl, ?_⟩; replace ba := nblk ba hb; replace bc := nblk bc hb; replace bf := nblk bf hb; replace HB := nbs HB hb; (try clear hb); obtain ⟨gb, gc, gd, gf, gg, gh⟩ := c6e bf; obtain ⟨gi, gj, gl, gm, gn, gp⟩ := z6_ bf))
   refine bodyPost_ret (results_cell_row rfl _ _ bn 27 #[.int .i64 bs, .bool bt, .int .i64 bu, .int .i64 bv, .int .i64 bw, .int .i64 bx] (0, 0) _ rfl (q6 bf) Try.underlying27 rfl (by kernel_rfl)) rfl ?_; exact ⟨er_, nbe HB⟩
 ·replace c4 := Bool.eq_false_iff.mpr c4
  subst c4; have H1 : ((spec_Bare.f a0_0 a0_1 a0_2 a0_3 a0_4 a0_5).bind fun bd => (some (bd.1, bd.2.1, bd.2.2.1, bd.2.2.2.1, bd.2.2.2.2.1, bd.2.2.2.2.2))) = some (r1, r2, r3, r4, r5, r6) := by rw [if_neg (show ¬ (false = true) by decide)] at H; exact H
  clear H; have H := H1; clear H1; replace H := Option.bind_eq_some_iff.mp H; obtain ⟨⟨bz, bA, bB, bC, bD, bE⟩, A340, H⟩ := H; replace H : (some (bz, bA, bB, bC, bD, bE)) = some (r1, r2, r3, r4, r5, r6) := H; have A34 := Aside0.mk A340; clear A340; simp only [Option.some.injEq, Prod.mk.injEq] at H; obtain ⟨rfl, rfl, rfl, rfl, rfl, rfl⟩ := H
  go_enter Try.func23, Try.ntmps23
  go_wp2_with (first | ((with_reducible refine gate_dst (N := 2) rfl ?_); refine bxe 2 #[.int .i64 a0_0, .bool a0_1, .int .i64 a0_2, .int .i64 a0_3, .int .i64 a0_4, .int .i64 a0_5] 27 ?_; intro bG hg gq hbox hb; have ba := hbox; have bH := nge HB hg; have bI := nge HB hg; replace HB := nbs HB hb; clear hb hbox hg) | ((with_reducible refine gate_dst (N := 3) rfl ?_); refine bxe 3 #[.int .i64 a1_0, .bool a1_1, .int .i64 a1_2, .int .i64 a1_3, .int .i64 a1_4, .int .i64 a1_5] 27 ?_; intro bJ hg gr hbox hb; have bc := hbox; have bK := nge HB hg; have bL := nge HB hg; have bl := nlt ba hg; have bm := ngt ba hg; replace ba := nblk ba hb; replace HB := nbs HB hb; clear hb hbox hg) | ((with_reducible refine gate_dst (N := 4) rfl ?_); refine bxe 4 #[.int .i64 0, .bool false, .int .i64 0, .int .i64 0, .int .i64 0, .int .i64 0] 27 ?_; intro bn hg gs hbox hb; have bf := hbox; have bM := nge HB hg; have bN := nge HB hg; have bo := nlt ba hg; have bk := ngt ba hg; have bp := nlt bc hg; have bq := ngt bc hg; replace ba := nblk ba hb; replace bc := nblk bc hb; replace HB := nbs HB hb; clear hb hbox hg; have gt := bl.out; have gu := bm.out; have gv := bo.out; have gw := bk.out; obtain ⟨gx, gy, gz, gA, gB, gC⟩ := c6e ba; obtain ⟨gD, gE, gF, gG, gH, gI⟩ := z6_ ba) | ((with_reducible refine gate_callee (f := 67) rfl ?_); refine goesM (some 6) rfl rfl Try.func67 (by kernel_rfl) rfl #[.agg #[.int .i64 a0_0, .bool a0_1, .int .i64 a0_2, .int .i64 a0_3, .int .i64 a0_4, .int .i64 a0_5]] rfl ?_; (with_reducible refine (spec_l4Open.calls k a0_0 a0_1 a0_2 a0_3 a0_4 a0_5 false _ A3.out).mono ?_); rintro e gJ ⟨rfl, hb⟩; refine ⟨_, rfl, ?_⟩; replace ba := nblk ba hb; replace bc := nblk bc hb; replace bf := nblk bf hb; replace HB := nbs HB hb; (try clear hb); obtain ⟨gK, gL, gM, gN, gO, gP⟩ := c6e ba; obtain ⟨gQ, gR, gS, gT, gU, gV⟩ := z6_ ba) | ((with_reducible refine gate_callee (f := 49) rfl ?_); refine goesM (some 14) rfl rfl Try.func49 (by kernel_rfl) rfl #[.agg #[.int .i64 a0_0, .bool a0_1, .int .i64 a0_2, .int .i64 a0_3, .int .i64 a0_4, .int .i64 a0_5]] rfl ?_; (with_reducible refine (spec_Bare.calls a0_0 a0_1 a0_2 a0_3 a0_4 a0_5 bz bA bB bC bD bE _ A34.out).mono ?_); rintro e gW ⟨rfl, hb⟩; refine ⟨_, rfl, ?_⟩; replace ba := nblk ba hb; replace bc := nblk bc hb; replace bf := nblk bf hb; replace HB := nbs HB hb; (try clear hb); have gX := bq.out; have gY := bp.out; obtain ⟨gZ, g0, g1, g2, g3, g4⟩ := c6e bf; obtain ⟨g5, g6, g7, g8, g9, ha⟩ := z6_ bf))
  refine bodyPost_ret (results_cell_row rfl _ _ bn 27 #[.int .i64 bz, .bool bA, .int .i64 bB, .int .i64 bC, .int .i64 bD, .int .i64 bE] (0, 0) _ rfl (q6 bf) Try.underlying27 rfl (by kernel_rfl)) rfl ?_; exact ⟨er_, nbe HB⟩

/-! ### impl_Try: function 51 -/
def impl_Try.j0 : Nat → Int → Int → Bool → Int → Bool → Int → Int → Int → Int → Option (Int)
 | 0, _, _, _, _, _, _, _, _, _ => none
 | k + 1, x1, x2, x7, hc, hd, dB, dC, dD, dE => if x7 = true then (some 1) else (if dE = 0 then (if (Go.bits .andNot .i64 x2 dD) = 0 then (if x1 < dB then (some 4) else (if x1 ≥ dC then (some 4) else (some 0))) else (some 3)) else (some 2))
def impl_Try.f (k : Nat) (a0_0 : Int) (a0_1 : Bool) (a0_2 : Int) (a0_3 : Int) (a0_4 : Int) (a0_5 : Int) (a1 : Int) (a2 : Int) : Option (Int) := if a0_1 = true then ((impl_WordOk.f k a0_0 a0_1 a0_2 a0_3 a0_4 a0_5).bind fun bi => (impl_Try.j0 k a1 a2 (!bi) a0_0 a0_1 a0_2 a0_3 a0_4 a0_5)) else (impl_Try.j0 k a1 a2 true a0_0 a0_1 a0_2 a0_3 a0_4 a0_5)
theorem impl_Try.mono_l : ∀ k, (∀ y0 y1 y2 y3 y4 y5 y6 y7 y8, LeO (impl_Try.j0 k y0 y1 y2 y3 y4 y5 y6 y7 y8) (impl_Try.j0 (k + 1) y0 y1 y2 y3 y4 y5 y6 y7 y8))
 | 0 => fun _ _ _ _ _ _ _ _ _ r h => by simp [impl_Try.j0] at h
 | k + 1 => by
  have ih0 := impl_Try.mono_l k
  ·intro y0 y1 y2 y3 y4 y5 y6 y7 y8
   unfold impl_Try.j0
   repeat' first
   | (with_reducible exact ih0 _ _ _ _ _ _ _ _ _)
   | (with_reducible exact impl_WordOk.mono _ _ _ _ _ _ _)
   | (with_reducible exact LeO.refl _)
   | (with_reducible exact LeO.none _)
   | (with_reducible refine LeO.ite ?_ ?_)
   | (with_reducible refine LeO.bind ?_ (fun _ => ?_))
   | exact ih0 _ _ _ _ _ _ _ _ _
   | exact impl_WordOk.mono _ _ _ _ _ _ _
   | exact LeO.none _
   | refine LeO.ite ?_ ?_
   | refine LeO.bind ?_ (fun _ => ?_)
theorem impl_Try.mono : ∀ a0 a1 a2 a3 a4 a5 a6 a7 k, LeO (impl_Try.f k a0 a1 a2 a3 a4 a5 a6 a7) (impl_Try.f (k + 1) a0 a1 a2 a3 a4 a5 a6 a7) := by
 intro a0 a1 a2 a3 a4 a5 a6 a7 k; have ih0 := impl_Try.mono_l k
 unfold impl_Try.f
 repeat' first
   | (with_reducible exact ih0 _ _ _ _ _ _ _ _ _)
   | (with_reducible exact impl_WordOk.mono _ _ _ _ _ _ _)
   | (with_reducible exact LeO.refl _)
   | (with_reducible exact LeO.none _)
   | (with_reducible refine LeO.ite ?_ ?_)
   | (with_reducible refine LeO.bind ?_ (fun _ => ?_))
   | exact ih0 _ _ _ _ _ _ _ _ _
   | exact impl_WordOk.mono _ _ _ _ _ _ _
   | exact LeO.none _
   | refine LeO.ite ?_ ?_
   | refine LeO.bind ?_ (fun _ => ?_)
set_option maxHeartbeats 8000000 in
set_option maxRecDepth 100000 in
theorem impl_Try.calls (k : Nat) (a0_0 : Int) (a0_1 : Bool) (a0_2 : Int) (a0_3 : Int) (a0_4 : Int) (a0_5 : Int) (a1 : Int) (a2 : Int) (r : Int) (w : World) (h : impl_Try.f k a0_0 a0_1 a0_2 a0_3 a0_4 a0_5 a1 a2 = some r) :
  Calls Try.prog 51 #[.agg #[.int .i64 a0_0, .bool a0_1, .int .i64 a0_2, .int .i64 a0_3, .int .i64 a0_4, .int .i64 a0_5], .int .i64 a1, .int .i64 a2] w fun e w' => e = .returned (.int .i64 r) ∧ Below w.heap.size w w' := by
 have hu27 := Try.underlying27; have HB := Aside0.mk (Below.refl w.heap.size w); have H : (if a0_1 = true then ((impl_WordOk.f k a0_0 a0_1 a0_2 a0_3 a0_4 a0_5).bind fun bi => (impl_Try.j0 k a1 a2 (!bi) a0_0 a0_1 a0_2 a0_3 a0_4 a0_5)) else (impl_Try.j0 k a1 a2 true a0_0 a0_1 a0_2 a0_3 a0_4 a0_5)) = some r := h; clear h; have bF := Aside0.mk H; clear H
 go_enter Try.func51, Try.ntmps51
 go_upto_region 1 with (first | ((with_reducible refine gate_dst (N := 3) rfl ?_); refine bxe 3 #[.int .i64 a0_0, .bool a0_1, .int .i64 a0_2, .int .i64 a0_3, .int .i64 a0_4, .int .i64 a0_5] 27 ?_; intro dF hg w5 hbox hb; have bg := hbox; have hf := nge HB hg; have hh := nge HB hg; replace HB := nbs HB hb; clear hb hbox hg))
 (try simp only [Act.put, List.setIfInBounds_toArray, List.set_cons_zero, List.set_cons_succ])
 go_cut [7] (fun v7 wc => ∃ (kq : Nat) (br : Bool), v7 = .bool br ∧ Aside0 (impl_Try.j0 kq a1 a2 br a0_0 a0_1 a0_2 a0_3 a0_4 a0_5 = some r) ∧ Aside0 (kq ≤ k) ∧ Aside0 (wc.heap[dF]? = some (.cells #[.int .i64 a0_0, .bool a0_1, .int .i64 a0_2, .int .i64 a0_3, .int .i64 a0_4, .int .i64 a0_5] 27 (0, 0))) ∧ Aside0 (Below w.heap.size w wc))
 case first =>
  have H := bF.out; clear bF
  by_cases c6 : a0_1 = true
  ·subst c6
   have H1 : ((impl_WordOk.f k a0_0 true a0_2 a0_3 a0_4 a0_5).bind fun bi => (impl_Try.j0 k a1 a2 (!bi) a0_0 true a0_2 a0_3 a0_4 a0_5)) = some r := by rw [if_pos rfl] at H; exact H
   clear H; have H := H1; clear H1; replace H := Option.bind_eq_some_iff.mp H; obtain ⟨bi, A70, H⟩ := H; replace H : (impl_Try.j0 k a1 a2 (!bi) a0_0 true a0_2 a0_3 a0_4 a0_5) = some r := H; have A7 := Aside0.mk A70; clear A70; have H' := Aside0.mk H; clear H; obtain ⟨dG, dH, dI, dJ, dK, dL⟩ := c6e bg; obtain ⟨dM, dN, dO, dP, dQ, dR⟩ := z6_ bg
   go_wp2_with (first | (go_at_call 25; (with_reducible refine (impl_WordOk.calls k a0_0 true a0_2 a0_3 a0_4 a0_5 bi _ A7.out).mono ?_); rintro e w9 ⟨rfl, hb⟩; replace bg := nblk bg hb; replace HB := nbs HB hb; (try clear hb)))
   go_meet
   case rel => exact ⟨_, (!bi), (by first | rfl | (simp; done) | (simp [*]; done)), H', ⟨by first | omega | exact Nat.le_refl _⟩, ⟨nb bg⟩, ⟨nbe HB⟩⟩
  ·replace c6 := Bool.eq_false_iff.mpr c6
   subst c6; have H1 : (impl_Try.j0 k a1 a2 true a0_0 false a0_2 a0_3 a0_4 a0_5) = some r := by rw [if_neg (show ¬ (false = true) by decide)] at H; exact H
   clear H; have H := H1; clear H1; have H' := Aside0.mk H; clear H; obtain ⟨dS, dT, dU, dV, dW, dX⟩ := c6e bg; obtain ⟨dY, dZ, d0, d1, d2, d3⟩ := z6_ bg; go_wp2
   go_meet
   case rel => exact ⟨_, (true), (by first | rfl | (simp; done) | (simp [*]; done)), H', ⟨by first | omega | exact Nat.le_refl _⟩, ⟨nb bg⟩, ⟨nbe HB⟩⟩
 case rest =>
  clear bF; try clear p2
  try clear c5
  try clear c6
  try clear dS
  try clear dT
  try clear dU
  try clear dV
  try clear dW
  try clear dX
  try clear dG
  try clear dH
  try clear dI
  try clear dJ
  try clear dK
  try clear dL
  try clear dY
  try clear dZ
  try clear d0
  try clear d1
  try clear d2
  try clear d3
  try clear dM
  try clear dN
  try clear dO
  try clear dP
  try clear dQ
  try clear dR
  obtain ⟨kq, br, rfl, HA, hj, bg, HB⟩ := hcut
  cases kq with
  | zero => exact absurd HA.out (by simp [impl_Try.j0])
  | succ kj3 =>
   have H := HA.out; clear HA; simp only [impl_Try.j0] at H
   by_cases c11 : br = true
   ·subst c11
    have H1 : (some 1) = some r := by rw [if_pos rfl] at H; exact H
    clear H; have H := H1; clear H1; obtain rfl := Option.some.inj H; go_wp2
    go_ret
    exact ⟨er_, nbe HB⟩
   ·replace c11 := Bool.eq_false_iff.mpr c11
    subst c11; have H1 : (if a0_5 = 0 then (if (Go.bits .andNot .i64 a2 a0_4) = 0 then (if a1 < a0_2 then (some 4) else (if a1 ≥ a0_3 then (some 4) else (some 0))) else (some 3)) else (some 2)) = some r := by rw [if_neg (show ¬ (false = true) by decide)] at H; exact H
    clear H; have H := H1; clear H1
    by_cases c12 : a0_5 = 0
    ·rw [if_pos c12] at H
     have c12b0 : (a0_5 == 0) = true := beq_iff_eq.mpr c12; have c12b1 : (a0_5 != 0) = false := bne_eq_false_iff_eq.mpr c12; clear c12
     by_cases c13 : (Go.bits .andNot .i64 a2 a0_4) = 0
     ·rw [if_pos c13] at H
      have c13b0 : ((Go.bits .andNot .i64 a2 a0_4) == 0) = true := beq_iff_eq.mpr c13; have c13b1 : ((Go.bits .andNot .i64 a2 a0_4) != 0) = false := bne_eq_false_iff_eq.mpr c13; clear c13
      by_cases c14 : a1 < a0_2
      ·rw [if_pos c14] at H
       have c14b0 : decide (a1 < a0_2) = true := decide_eq_true c14; clear c14; obtain rfl := Option.some.inj H; obtain ⟨bO, bP, bQ, bR, bS, bT⟩ := c6e bg; obtain ⟨bU, bV, bW, bX, bY, bZ⟩ := z6_ bg; go_wp2
       go_ret
       exact ⟨er_, nbe HB⟩
      ·rw [if_neg c14] at H
       have c14b0 : decide (a1 < a0_2) = false := decide_eq_false c14; clear c14
       by_cases c16 : a1 ≥ a0_3
       ·rw [if_pos c16] at H
        have c16b0 : decide (a0_3 ≤ a1) = true := decide_eq_true c16; clear c16; obtain rfl := Option.some.inj H; obtain ⟨b0, b1, b2, b3, b4, b5⟩ := c6e bg; obtain ⟨b6, b7, b8, b9, da, db⟩ := z6_ bg; go_wp2
        go_ret
        exact ⟨er_, nbe HB⟩
       ·rw [if_neg c16] at H
        have c16b0 : decide (a0_3 ≤ a1) = false := decide_eq_false c16; clear c16; obtain rfl := Option.some.inj H; obtain ⟨dc, dd, de, df, dg, dh⟩ := c6e bg; obtain ⟨di, dj, dk, dl, dm, dn⟩ := z6_ bg; go_wp2
        go_ret
        exact ⟨er_, nbe HB⟩
     ·rw [if_neg c13] at H
      have c13b0 : ((Go.bits .andNot .i64 a2 a0_4) == 0) = false := beq_eq_false_iff_ne.mpr c13; have c13b1 : ((Go.bits .andNot .i64 a2 a0_4) != 0) = true := bne_iff_ne.mpr c13; obtain rfl := Option.some.inj H; obtain ⟨dp, dq, dr, ds, dt, du⟩ := c6e bg; obtain ⟨dv, dw, dx, dy, dz, dA⟩ := z6_ bg; go_wp2
      go_ret
      exact ⟨er_, nbe HB⟩
    ·rw [if_neg c12] at H
     have c12b0 : (a0_5 == 0) = false := beq_eq_false_iff_ne.mpr c12; have c12b1 : (a0_5 != 0) = true := bne_iff_ne.mpr c12; obtain rfl := Option.some.inj H; obtain ⟨hl, hm, hn, ho, hp, hq⟩ := c6e bg; obtain ⟨hr, hs, ht, hu, hv, hw⟩ := z6_ bg; go_wp2
     go_ret
     exact ⟨er_, nbe HB⟩

end Go.Proofs.Ytiliggbholjdjaa.PFnSealed
