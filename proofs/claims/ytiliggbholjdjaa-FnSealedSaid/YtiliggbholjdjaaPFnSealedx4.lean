-- Written by a program of this session (wip/patch.py turns a copy of the kit's print): the functions that the law reaches, and their walks.
import Derived.Test.YtiliggbholjdjaaPFnSealedx0
import Derived.Test.YtiliggbholjdjaaPFnSealedx3
import Derived.Test.YtiliggbholjdjaaCFnSealed
namespace Go.Proofs.Ytiliggbholjdjaa.PFnSealed
open Go.RowKit Go.Proofs.YtiliggbholjdjaaW.PrintWords Go.Proofs.YtiliggbholjdjaaW.PrintLast Go.Proofs.YtiliggbholjdjaaW.PrintMore Go.Proofs.YtiliggbholjdjaaW.Mine
attribute [local go_sem] max2_int min2_int max_two min_two max_three min_three max_four min_four   -- for this text's walks alone
set_option linter.unusedVariables false
set_option linter.unusedSimpArgs false

/-! ### impl_Narrow: function 13 -/
def impl_Narrow.j0 : Nat → Int → Bool → Int → Bool → Int → Int → Int → Int → Option (Int × Bool × Int × Int × Int × Int)
 | 0, _, _, _, _, _, _, _, _ => none
 | k + 1, x1, d3, bL, bR, bS, bT, bU, bV => if d3 = true then ((impl_Bare.f bL bR bS bT bU bV).bind fun bn => (some (bn.1, bn.2.1, bn.2.2.1, bn.2.2.2.1, bn.2.2.2.2.1, bn.2.2.2.2.2))) else ((impl_Wide.f k bL (wrap64 (bL + x1))).bind fun br => (if br.1 < bS then ((impl_Bare.f bL bR bS bT bU bV).bind fun bg => (some (bg.1, bg.2.1, bg.2.2.1, bg.2.2.2.1, bg.2.2.2.2.1, bg.2.2.2.2.2))) else (if br.2 > bT then ((impl_Bare.f bL bR bS bT bU bV).bind fun bh => (some (bh.1, bh.2.1, bh.2.2.1, bh.2.2.2.1, bh.2.2.2.2.1, bh.2.2.2.2.2))) else (some (bL, bR, br.1, br.2, bU, bV)))))
def impl_Narrow.f (k : Nat) (a0_0 : Int) (a0_1 : Bool) (a0_2 : Int) (a0_3 : Int) (a0_4 : Int) (a0_5 : Int) (a1 : Int) : Option (Int × Bool × Int × Int × Int × Int) := (impl_open.f k a0_0 a0_1 a0_2 a0_3 a0_4 a0_5).bind fun bM => (if bM = true then (if a1 < 0 then (impl_Narrow.j0 k a1 true a0_0 a0_1 a0_2 a0_3 a0_4 a0_5) else (if a1 > 4096 then (impl_Narrow.j0 k a1 true a0_0 a0_1 a0_2 a0_3 a0_4 a0_5) else ((impl_BoundsOk.f a0_0 (wrap64 (a0_0 + a1))).bind fun bp => (impl_Narrow.j0 k a1 (!bp) a0_0 a0_1 a0_2 a0_3 a0_4 a0_5)))) else (impl_Narrow.j0 k a1 true a0_0 a0_1 a0_2 a0_3 a0_4 a0_5))
theorem impl_Narrow.mono_l : ∀ k, (∀ y0 y1 y2 y3 y4 y5 y6 y7, LeO (impl_Narrow.j0 k y0 y1 y2 y3 y4 y5 y6 y7) (impl_Narrow.j0 (k + 1) y0 y1 y2 y3 y4 y5 y6 y7))
 | 0 => fun _ _ _ _ _ _ _ _ r h => by simp [impl_Narrow.j0] at h
 | k + 1 => by
  have ih0 := impl_Narrow.mono_l k
  ·intro y0 y1 y2 y3 y4 y5 y6 y7
   unfold impl_Narrow.j0
   repeat' first
   | (with_reducible exact ih0 _ _ _ _ _ _ _ _)
   | (with_reducible exact impl_Wide.mono _ _ _)
   | (with_reducible exact impl_open.mono _ _ _ _ _ _ _)
   | (with_reducible exact LeO.refl _)
   | (with_reducible exact LeO.none _)
   | (with_reducible refine LeO.ite ?_ ?_)
   | (with_reducible refine LeO.bind ?_ (fun _ => ?_))
   | exact ih0 _ _ _ _ _ _ _ _
   | exact impl_Wide.mono _ _ _
   | exact impl_open.mono _ _ _ _ _ _ _
   | exact LeO.none _
   | refine LeO.ite ?_ ?_
   | refine LeO.bind ?_ (fun _ => ?_)
theorem impl_Narrow.mono : ∀ a0 a1 a2 a3 a4 a5 a6 k, LeO (impl_Narrow.f k a0 a1 a2 a3 a4 a5 a6) (impl_Narrow.f (k + 1) a0 a1 a2 a3 a4 a5 a6) := by
 intro a0 a1 a2 a3 a4 a5 a6 k; have ih0 := impl_Narrow.mono_l k
 unfold impl_Narrow.f
 repeat' first
   | (with_reducible exact ih0 _ _ _ _ _ _ _ _)
   | (with_reducible exact impl_Wide.mono _ _ _)
   | (with_reducible exact impl_open.mono _ _ _ _ _ _ _)
   | (with_reducible exact LeO.refl _)
   | (with_reducible exact LeO.none _)
   | (with_reducible refine LeO.ite ?_ ?_)
   | (with_reducible refine LeO.bind ?_ (fun _ => ?_))
   | exact ih0 _ _ _ _ _ _ _ _
   | exact impl_Wide.mono _ _ _
   | exact impl_open.mono _ _ _ _ _ _ _
   | exact LeO.none _
   | refine LeO.ite ?_ ?_
   | refine LeO.bind ?_ (fun _ => ?_)
set_option maxHeartbeats 8000000 in
set_option maxRecDepth 100000 in
theorem impl_Narrow.calls (k : Nat) (a0_0 : Int) (a0_1 : Bool) (a0_2 : Int) (a0_3 : Int) (a0_4 : Int) (a0_5 : Int) (a1 : Int) (r1 : Int) (r2 : Bool) (r3 : Int) (r4 : Int) (r5 : Int) (r6 : Int) (w : World) (h : impl_Narrow.f k a0_0 a0_1 a0_2 a0_3 a0_4 a0_5 a1 = some (r1, r2, r3, r4, r5, r6)) :
  Calls Try.prog 13 #[.agg #[.int .i64 a0_0, .bool a0_1, .int .i64 a0_2, .int .i64 a0_3, .int .i64 a0_4, .int .i64 a0_5], .int .i64 a1] w fun e w' => e = .returned (.agg #[.int .i64 r1, .bool r2, .int .i64 r3, .int .i64 r4, .int .i64 r5, .int .i64 r6]) ∧ Below w.heap.size w w' := by
 have hu27 := Try.underlying27; have HB := Aside0.mk (Below.refl w.heap.size w); have H : ((impl_open.f k a0_0 a0_1 a0_2 a0_3 a0_4 a0_5).bind fun bM => (if bM = true then (if a1 < 0 then (impl_Narrow.j0 k a1 true a0_0 a0_1 a0_2 a0_3 a0_4 a0_5) else (if a1 > 4096 then (impl_Narrow.j0 k a1 true a0_0 a0_1 a0_2 a0_3 a0_4 a0_5) else ((impl_BoundsOk.f a0_0 (wrap64 (a0_0 + a1))).bind fun bp => (impl_Narrow.j0 k a1 (!bp) a0_0 a0_1 a0_2 a0_3 a0_4 a0_5)))) else (impl_Narrow.j0 k a1 true a0_0 a0_1 a0_2 a0_3 a0_4 a0_5))) = some (r1, r2, r3, r4, r5, r6) := h; clear h; have b0 := Aside0.mk H; clear H
 go_enter Try.func13, Try.ntmps13
 go_upto_region 1 with (first | ((with_reducible refine gate_dst (N := 2) rfl ?_); refine bxe 2 #[.int .i64 a0_0, .bool a0_1, .int .i64 a0_2, .int .i64 a0_3, .int .i64 a0_4, .int .i64 a0_5] 27 ?_; intro d4 hg w4 hbox hb; have ba := hbox; have e6 := nge HB hg; have e7 := nge HB hg; replace HB := nbs HB hb; clear hb hbox hg) | ((with_reducible refine gate_dst (N := 4) rfl ?_); refine bxe 4 #[.int .i64 0, .bool false, .int .i64 0, .int .i64 0, .int .i64 0, .int .i64 0] 27 ?_; intro bP hg w5 hbox hb; have bb := hbox; have e8 := nge HB hg; have e9 := nge HB hg; have bC := nlt ba hg; have bs := ngt ba hg; replace ba := nblk ba hb; replace HB := nbs HB hb; clear hb hbox hg))
 (try simp only [Act.put, List.setIfInBounds_toArray, List.set_cons_zero, List.set_cons_succ])
 go_cut [27] (fun d5 wc => ∃ (kq : Nat) (bW : Bool), d5 = .bool bW ∧ Aside0 (impl_Narrow.j0 kq a1 bW a0_0 a0_1 a0_2 a0_3 a0_4 a0_5 = some (r1, r2, r3, r4, r5, r6)) ∧ Aside0 (kq ≤ k) ∧ Aside0 (wc.heap[d4]? = some (.cells #[.int .i64 a0_0, .bool a0_1, .int .i64 a0_2, .int .i64 a0_3, .int .i64 a0_4, .int .i64 a0_5] 27 (0, 0))) ∧ Aside0 (wc.heap[bP]? = some (.cells #[.int .i64 0, .bool false, .int .i64 0, .int .i64 0, .int .i64 0, .int .i64 0] 27 (0, 0))) ∧ Aside0 (Below w.heap.size w wc))
 case first =>
  have H := b0.out; clear b0; replace H := Option.bind_eq_some_iff.mp H; obtain ⟨bM, A60, H⟩ := H; replace H : (if bM = true then (if a1 < 0 then (impl_Narrow.j0 k a1 true a0_0 a0_1 a0_2 a0_3 a0_4 a0_5) else (if a1 > 4096 then (impl_Narrow.j0 k a1 true a0_0 a0_1 a0_2 a0_3 a0_4 a0_5) else ((impl_BoundsOk.f a0_0 (wrap64 (a0_0 + a1))).bind fun bp => (impl_Narrow.j0 k a1 (!bp) a0_0 a0_1 a0_2 a0_3 a0_4 a0_5)))) else (impl_Narrow.j0 k a1 true a0_0 a0_1 a0_2 a0_3 a0_4 a0_5)) = some (r1, r2, r3, r4, r5, r6) := H; have A6 := Aside0.mk A60; clear A60
  by_cases c7 : bM = true
  ·subst c7
   have H1 : (if a1 < 0 then (impl_Narrow.j0 k a1 true a0_0 a0_1 a0_2 a0_3 a0_4 a0_5) else (if a1 > 4096 then (impl_Narrow.j0 k a1 true a0_0 a0_1 a0_2 a0_3 a0_4 a0_5) else ((impl_BoundsOk.f a0_0 (wrap64 (a0_0 + a1))).bind fun bp => (impl_Narrow.j0 k a1 (!bp) a0_0 a0_1 a0_2 a0_3 a0_4 a0_5)))) = some (r1, r2, r3, r4, r5, r6) := by rw [if_pos rfl] at H; exact H
   clear H; have H := H1; clear H1
   by_cases c8 : a1 < 0
   ·rw [if_pos c8] at H
    have c8b0 : decide (a1 < 0) = true := decide_eq_true c8; clear c8; (first | rw [c8b0] | (simp only [i64_w, i32_w]; rw [c8b0]) | skip); have H' := Aside0.mk H; clear H; have ga := bC.out; have gb := bs.out; obtain ⟨d6, d7, d8, d9, ea, eb⟩ := c6e ba; obtain ⟨ec, ed, ee, ef, eg, eh⟩ := z6_ ba
    go_wp2_with (first | ((with_reducible refine gate_callee (f := 64) rfl ?_); refine goesM (some 8) rfl rfl Try.func64 (by kernel_rfl) rfl #[.agg #[.int .i64 a0_0, .bool a0_1, .int .i64 a0_2, .int .i64 a0_3, .int .i64 a0_4, .int .i64 a0_5]] rfl ?_; (with_reducible refine (impl_open.calls k a0_0 a0_1 a0_2 a0_3 a0_4 a0_5 true _ A6.out).mono ?_); rintro e gc ⟨rfl, hb⟩; refine ⟨_, rfl, ?_⟩; replace ba := nblk ba hb; replace bb := nblk bb hb; replace HB := nbs HB hb; (try clear hb)))
    go_meet
    case rel => exact ⟨_, (true), (by first | rfl | (simp; done) | (simp [*]; done)), H', ⟨by first | omega | exact Nat.le_refl _⟩, ⟨nb ba⟩, ⟨nb bb⟩, ⟨nbe HB⟩⟩
   ·rw [if_neg c8] at H
    have c8b0 : decide (a1 < 0) = false := decide_eq_false c8; clear c8; (first | rw [c8b0] | (simp only [i64_w, i32_w]; rw [c8b0]) | skip)
    by_cases c12 : a1 > 4096
    ·rw [if_pos c12] at H
     have c12b0 : decide (4096 < a1) = true := decide_eq_true c12; clear c12; have H' := Aside0.mk H; clear H; have ei := bC.out; have ej := bs.out; obtain ⟨dx, dy, dz, dA, dB, dC⟩ := c6e ba; obtain ⟨dD, dE, dF, dG, dH, dI⟩ := z6_ ba
     go_wp2_with (first | ((with_reducible refine gate_callee (f := 64) rfl ?_); refine goesM (some 8) rfl rfl Try.func64 (by kernel_rfl) rfl #[.agg #[.int .i64 a0_0, .bool a0_1, .int .i64 a0_2, .int .i64 a0_3, .int .i64 a0_4, .int .i64 a0_5]] rfl ?_; (with_reducible refine (impl_open.calls k a0_0 a0_1 a0_2 a0_3 a0_4 a0_5 true _ A6.out).mono ?_); rintro e b1 ⟨rfl, hb⟩; refine ⟨_, rfl, ?_⟩; replace ba := nblk ba hb; replace bb := nblk bb hb; replace HB := nbs HB hb; (try clear hb)))
     go_meet
     case rel => exact ⟨_, (true), (by first | rfl | (simp; done) | (simp [*]; done)), H', ⟨by first | omega | exact Nat.le_refl _⟩, ⟨nb ba⟩, ⟨nb bb⟩, ⟨nbe HB⟩⟩
    ·rw [if_neg c12] at H
     have c12b0 : decide (4096 < a1) = false := decide_eq_false c12; clear c12; replace H := Option.bind_eq_some_iff.mp H; obtain ⟨bp, A160, H⟩ := H; replace H : (impl_Narrow.j0 k a1 (!bp) a0_0 a0_1 a0_2 a0_3 a0_4 a0_5) = some (r1, r2, r3, r4, r5, r6) := H; have A16 := Aside0.mk A160; clear A160; have H' := Aside0.mk H; clear H; have gd := bC.out; have gf := bs.out; obtain ⟨ek, el, em, en, eo, ep⟩ := c6e ba; obtain ⟨er, es, et, eu, ev, ew⟩ := z6_ ba
     go_wp2_with (first | ((with_reducible refine gate_callee (f := 64) rfl ?_); refine goesM (some 8) rfl rfl Try.func64 (by kernel_rfl) rfl #[.agg #[.int .i64 a0_0, .bool a0_1, .int .i64 a0_2, .int .i64 a0_3, .int .i64 a0_4, .int .i64 a0_5]] rfl ?_; (with_reducible refine (impl_open.calls k a0_0 a0_1 a0_2 a0_3 a0_4 a0_5 true _ A6.out).mono ?_); rintro e gg ⟨rfl, hb⟩; refine ⟨_, rfl, ?_⟩; replace ba := nblk ba hb; replace bb := nblk bb hb; replace HB := nbs HB hb; (try clear hb); obtain ⟨ex, ey, ez, eA, eB, eC⟩ := c6e ba; obtain ⟨eD, eE, eF, eG, eH, eI⟩ := z6_ ba) | (go_at_call 65; (with_reducible refine (impl_BoundsOk.calls a0_0 (wrap64 (a0_0 + a1)) bp _ A16.out).mono ?_); rintro e w' ⟨rfl, ⟨nd, rfl⟩⟩))
     go_meet
     case rel => exact ⟨_, (!bp), (by first | rfl | (simp; done) | (simp [*]; done)), H', ⟨by first | omega | exact Nat.le_refl _⟩, ⟨nb ba⟩, ⟨nb bb⟩, ⟨nbe HB⟩⟩
  ·replace c7 := Bool.eq_false_iff.mpr c7
   subst c7; have H1 : (impl_Narrow.j0 k a1 true a0_0 a0_1 a0_2 a0_3 a0_4 a0_5) = some (r1, r2, r3, r4, r5, r6) := by rw [if_neg (show ¬ (false = true) by decide)] at H; exact H
   clear H; have H := H1; clear H1; have H' := Aside0.mk H; clear H; have gh := bC.out; have gi := bs.out; obtain ⟨dJ, dK, dL, dM, dN, dO⟩ := c6e ba; obtain ⟨dP, dQ, dR, dS, dT, dU⟩ := z6_ ba
   go_wp2_with (first | ((with_reducible refine gate_callee (f := 64) rfl ?_); refine goesM (some 8) rfl rfl Try.func64 (by kernel_rfl) rfl #[.agg #[.int .i64 a0_0, .bool a0_1, .int .i64 a0_2, .int .i64 a0_3, .int .i64 a0_4, .int .i64 a0_5]] rfl ?_; (with_reducible refine (impl_open.calls k a0_0 a0_1 a0_2 a0_3 a0_4 a0_5 false _ A6.out).mono ?_); rintro e gj ⟨rfl, hb⟩; refine ⟨_, rfl, ?_⟩; replace ba := nblk ba hb; replace bb := nblk bb hb; replace HB := nbs HB hb; (try clear hb)))
   go_meet
   case rel => exact ⟨_, (true), (by first | rfl | (simp; done) | (simp [*]; done)), H', ⟨by first | omega | exact Nat.le_refl _⟩, ⟨nb ba⟩, ⟨nb bb⟩, ⟨nbe HB⟩⟩
 case rest =>
  clear b0; try clear c1
  try clear c2
  try clear p2
  try clear c6
  try clear p6
  try clear c7
  try clear c8
  try clear c8b0
  try clear c9
  try clear c12
  try clear c12b0
  try clear c13
  try clear c17
  try clear c21
  try clear d6
  try clear d7
  try clear d8
  try clear d9
  try clear ea
  try clear eb
  try clear dx
  try clear dy
  try clear dz
  try clear dA
  try clear dB
  try clear dC
  try clear ek
  try clear el
  try clear em
  try clear en
  try clear eo
  try clear ep
  try clear ex
  try clear ey
  try clear ez
  try clear eA
  try clear eB
  try clear eC
  try clear dJ
  try clear dK
  try clear dL
  try clear dM
  try clear dN
  try clear dO
  try clear ec
  try clear ed
  try clear ee
  try clear ef
  try clear eg
  try clear eh
  try clear dD
  try clear dE
  try clear dF
  try clear dG
  try clear dH
  try clear dI
  try clear er
  try clear es
  try clear et
  try clear eu
  try clear ev
  try clear ew
  try clear eD
  try clear eE
  try clear eF
  try clear eG
  try clear eH
  try clear eI
  try clear dP
  try clear dQ
  try clear dR
  try clear dS
  try clear dT
  try clear dU
  obtain ⟨kq, bW, rfl, HA, gl, ba, bb, HB⟩ := hcut
  cases kq with
  | zero => exact absurd HA.out (by simp [impl_Narrow.j0])
  | succ kj2 =>
   have H := HA.out; clear HA; simp only [impl_Narrow.j0] at H
   by_cases c24 : bW = true
   ·subst c24
    have H1 : ((impl_Bare.f a0_0 a0_1 a0_2 a0_3 a0_4 a0_5).bind fun bn => (some (bn.1, bn.2.1, bn.2.2.1, bn.2.2.2.1, bn.2.2.2.2.1, bn.2.2.2.2.2))) = some (r1, r2, r3, r4, r5, r6) := by rw [if_pos rfl] at H; exact H
    clear H; have H := H1; clear H1; replace H := Option.bind_eq_some_iff.mp H; obtain ⟨⟨b2, b3, b4, b5, b6, b7⟩, A250, H⟩ := H; replace H : (some (b2, b3, b4, b5, b6, b7)) = some (r1, r2, r3, r4, r5, r6) := H; have A25 := Aside0.mk A250; clear A250; simp only [Option.some.injEq, Prod.mk.injEq] at H; obtain ⟨rfl, rfl, rfl, rfl, rfl, rfl⟩ := H; have gm := bC.out; have gn := bs.out; obtain ⟨gp, gq, gr, gs, gt, gu⟩ := c6e ba; obtain ⟨gv, gw, gx, gy, gz, gA⟩ := z6_ ba
    go_wp2_with (first | ((with_reducible refine gate_callee (f := 48) rfl ?_); refine goesM (some 29) rfl rfl Try.func48 (by kernel_rfl) rfl #[.agg #[.int .i64 a0_0, .bool a0_1, .int .i64 a0_2, .int .i64 a0_3, .int .i64 a0_4, .int .i64 a0_5]] rfl ?_; (with_reducible refine (impl_Bare.calls a0_0 a0_1 a0_2 a0_3 a0_4 a0_5 b2 b3 b4 b5 b6 b7 _ A25.out).mono ?_); rintro e gB ⟨rfl, hb⟩; refine ⟨_, rfl, ?_⟩; replace ba := nblk ba hb; replace bb := nblk bb hb; replace HB := nbs HB hb; (try clear hb); obtain ⟨gC, gD, gE, gF, gG, gH⟩ := c6e bb; obtain ⟨gI, gJ, gK, gL, gM, gN⟩ := z6_ bb))
    refine bodyPost_ret (results_cell_row rfl _ _ bP 27 #[.int .i64 b2, .bool b3, .int .i64 b4, .int .i64 b5, .int .i64 b6, .int .i64 b7] (0, 0) _ rfl (q6 bb) Try.underlying27 rfl (by kernel_rfl)) rfl ?_; exact ⟨er_, nbe HB⟩
   ·replace c24 := Bool.eq_false_iff.mpr c24
    subst c24; have H1 : ((impl_Wide.f kj2 a0_0 (wrap64 (a0_0 + a1))).bind fun br => (if br.1 < a0_2 then ((impl_Bare.f a0_0 a0_1 a0_2 a0_3 a0_4 a0_5).bind fun bg => (some (bg.1, bg.2.1, bg.2.2.1, bg.2.2.2.1, bg.2.2.2.2.1, bg.2.2.2.2.2))) else (if br.2 > a0_3 then ((impl_Bare.f a0_0 a0_1 a0_2 a0_3 a0_4 a0_5).bind fun bh => (some (bh.1, bh.2.1, bh.2.2.1, bh.2.2.2.1, bh.2.2.2.2.1, bh.2.2.2.2.2))) else (some (a0_0, a0_1, br.1, br.2, a0_4, a0_5))))) = some (r1, r2, r3, r4, r5, r6) := by rw [if_neg (show ¬ (false = true) by decide)] at H; exact H
    clear H; have H := H1; clear H1; replace H := Option.bind_eq_some_iff.mp H; obtain ⟨⟨bt, bu⟩, A300, H⟩ := H; replace H : (if bt < a0_2 then ((impl_Bare.f a0_0 a0_1 a0_2 a0_3 a0_4 a0_5).bind fun bg => (some (bg.1, bg.2.1, bg.2.2.1, bg.2.2.2.1, bg.2.2.2.2.1, bg.2.2.2.2.2))) else (if bu > a0_3 then ((impl_Bare.f a0_0 a0_1 a0_2 a0_3 a0_4 a0_5).bind fun bh => (some (bh.1, bh.2.1, bh.2.2.1, bh.2.2.2.1, bh.2.2.2.2.1, bh.2.2.2.2.2))) else (some (a0_0, a0_1, bt, bu, a0_4, a0_5)))) = some (r1, r2, r3, r4, r5, r6) := H; have A30 := Aside0.mk A300; clear A300
    by_cases c31 : bt < a0_2
    ·rw [if_pos c31] at H
     have c31b0 : decide (bt < a0_2) = true := decide_eq_true c31; clear c31; replace H := Option.bind_eq_some_iff.mp H; obtain ⟨⟨b8, b9, da, db, dc, dd⟩, A320, H⟩ := H; replace H : (some (b8, b9, da, db, dc, dd)) = some (r1, r2, r3, r4, r5, r6) := H; have A32 := Aside0.mk A320; clear A320; simp only [Option.some.injEq, Prod.mk.injEq] at H; obtain ⟨rfl, rfl, rfl, rfl, rfl, rfl⟩ := H; have gO := bC.out; have gP := bs.out; obtain ⟨eJ, eK, eL, eM, eN, eO⟩ := c6e ba; obtain ⟨eP, eQ, eR, eS, eT, eU⟩ := z6_ ba
     go_wp2_with (first | ((with_reducible refine gate_callee (f := 66) rfl ?_); refine goesM (some 37) rfl rfl Try.func66 (by kernel_rfl) rfl #[.int .i64 a0_0, .int .i64 (wrap64 (a0_0 + a1))] rfl ?_; (with_reducible refine (impl_Wide.calls kj2 a0_0 (wrap64 (a0_0 + a1)) bt bu _ A30.out).mono ?_); rintro e gQ ⟨rfl, hb⟩; refine ⟨_, rfl, ?_⟩; replace ba := nblk ba hb; replace bb := nblk bb hb; replace HB := nbs HB hb; (try clear hb); obtain ⟨gR, gS, gT, gU, gV, gW⟩ := c6e ba; obtain ⟨gX, gY, gZ, g0, g2, g3⟩ := z6_ ba) | ((with_reducible refine gate_callee (f := 48) rfl ?_); refine goesM (some 53) rfl rfl Try.func48 (by kernel_rfl) rfl #[.agg #[.int .i64 a0_0, .bool a0_1, .int .i64 a0_2, .int .i64 a0_3, .int .i64 a0_4, .int .i64 a0_5]] rfl ?_; (with_reducible refine (impl_Bare.calls a0_0 a0_1 a0_2 a0_3 a0_4 a0_5 b8 b9 da db dc dd _ A32.out).mono ?_); rintro e g5 ⟨rfl, hb⟩; refine ⟨_, rfl, ?_⟩; replace ba := nblk ba hb; replace bb := nblk bb hb; replace HB := nbs HB hb; (try clear hb); obtain ⟨g6, g7, g8, g9, ha, hc⟩ := c6e bb; obtain ⟨hd, hf, hh, hj, hl, hm⟩ := z6_ bb))
     refine bodyPost_ret (results_cell_row rfl _ _ bP 27 #[.int .i64 b8, .bool b9, .int .i64 da, .int .i64 db, .int .i64 dc, .int .i64 dd] (0, 0) _ rfl (q6 bb) Try.underlying27 rfl (by kernel_rfl)) rfl ?_; exact ⟨er_, nbe HB⟩
    ·rw [if_neg c31] at H
     have c31b0 : decide (bt < a0_2) = false := decide_eq_false c31; clear c31
     by_cases c39 : bu > a0_3
     ·rw [if_pos c39] at H
      have c39b0 : decide (a0_3 < bu) = true := decide_eq_true c39; clear c39; replace H := Option.bind_eq_some_iff.mp H; obtain ⟨⟨de, df, dg, dh, di, dj⟩, A400, H⟩ := H; replace H : (some (de, df, dg, dh, di, dj)) = some (r1, r2, r3, r4, r5, r6) := H; have A40 := Aside0.mk A400; clear A400; simp only [Option.some.injEq, Prod.mk.injEq] at H; obtain ⟨rfl, rfl, rfl, rfl, rfl, rfl⟩ := H; have hn := bC.out; have hp := bs.out; obtain ⟨hr, hs, hu, hv, hx, hy⟩ := c6e ba; obtain ⟨hz, hA, hC, hD, hE, hF⟩ := z6_ ba
      go_wp2_with (first | ((with_reducible refine gate_callee (f := 66) rfl ?_); refine goesM (some 37) rfl rfl Try.func66 (by kernel_rfl) rfl #[.int .i64 a0_0, .int .i64 (wrap64 (a0_0 + a1))] rfl ?_; (with_reducible refine (impl_Wide.calls kj2 a0_0 (wrap64 (a0_0 + a1)) bt bu _ A30.out).mono ?_); rintro e hG ⟨rfl, hb⟩; refine ⟨_, rfl, ?_⟩; replace ba := nblk ba hb; replace bb := nblk bb hb; replace HB := nbs HB hb; (try clear hb); obtain ⟨hH, hJ, hL, hM, hN, hO⟩ := c6e ba; obtain ⟨hQ, hR, hS, hT, hU, hV⟩ := z6_ ba) | ((with_reducible refine gate_callee (f := 48) rfl ?_); refine goesM (some 53) rfl rfl Try.func48 (by kernel_rfl) rfl #[.agg #[.int .i64 a0_0, .bool a0_1, .int .i64 a0_2, .int .i64 a0_3, .int .i64 a0_4, .int .i64 a0_5]] rfl ?_; (with_reducible refine (impl_Bare.calls a0_0 a0_1 a0_2 a0_3 a0_4 a0_5 de df dg dh di dj _ A40.out).mono ?_); rintro e hW ⟨rfl, hb⟩; refine ⟨_, rfl, ?_⟩; replace ba := nblk ba hb; replace bb := nblk bb hb; replace HB := nbs HB hb; (try clear hb); obtain ⟨hX, hY, hZ, h0, h1, h2⟩ := c6e bb; obtain ⟨h3, h4, h5, h6, h7, h8⟩ := z6_ bb))
      refine bodyPost_ret (results_cell_row rfl _ _ bP 27 #[.int .i64 de, .bool df, .int .i64 dg, .int .i64 dh, .int .i64 di, .int .i64 dj] (0, 0) _ rfl (q6 bb) Try.underlying27 rfl (by kernel_rfl)) rfl ?_; exact ⟨er_, nbe HB⟩
     ·rw [if_neg c39] at H
      have c39b0 : decide (a0_3 < bu) = false := decide_eq_false c39; clear c39; simp only [Option.some.injEq, Prod.mk.injEq] at H; obtain ⟨rfl, rfl, rfl, rfl, rfl, rfl⟩ := H; have h9 := bC.out; have ia := bs.out; obtain ⟨ib, ic, ig, ih, ii, ij⟩ := c6e ba; obtain ⟨ik, il, im, io, ip, iq⟩ := z6_ ba
      go_wp2_with (first | ((with_reducible refine gate_callee (f := 66) rfl ?_); refine goesM (some 37) rfl rfl Try.func66 (by kernel_rfl) rfl #[.int .i64 a0_0, .int .i64 (wrap64 (a0_0 + a1))] rfl ?_; (with_reducible refine (impl_Wide.calls kj2 a0_0 (wrap64 (a0_0 + a1)) bt bu _ A30.out).mono ?_); rintro e ir ⟨rfl, hb⟩; refine ⟨_, rfl, ?_⟩; replace ba := nblk ba hb; replace bb := nblk bb hb; replace HB := nbs HB hb; (try clear hb); obtain ⟨iu, iv, iw, ix, iy, iz⟩ := c6e ba; obtain ⟨iA, iB, iC, iD, iE, iF⟩ := z6_ ba; obtain ⟨iG, iH, iI, iJ, iK, iL⟩ := c6e bb; obtain ⟨iM, iN, iO, iP, iQ, iR⟩ := z6_ bb))
      refine bodyPost_ret (results_cell_row rfl _ _ bP 27 #[.int .i64 a0_0, .bool a0_1, .int .i64 bt, .int .i64 bu, .int .i64 a0_4, .int .i64 a0_5] (0, 0) _ rfl (p6 bb (k2_ bs.out (nb bb))) Try.underlying27 rfl (by kernel_rfl)) rfl ?_; exact ⟨er_, nbe HB⟩

/-! ### impl_Point: function 15 -/
def impl_Point.f (k : Nat) (a0_0 : Int) (a0_1 : Bool) (a0_2 : Int) (a0_3 : Int) (a0_4 : Int) (a0_5 : Int) (a1 : Int) : Option (Int × Bool × Int × Int × Int × Int) := (impl_Plain.f a1).bind fun bl => ((impl_open.f k a0_0 a0_1 a0_2 a0_3 a0_4 a0_5).bind fun bD => (if bD = true then (some (bl.1, true, a0_2, a0_3, a0_4, a0_5)) else (some (bl.1, bl.2.1, bl.2.2.1, bl.2.2.2.1, bl.2.2.2.2.1, bl.2.2.2.2.2))))
theorem impl_Point.mono : ∀ a0 a1 a2 a3 a4 a5 a6 k, LeO (impl_Point.f k a0 a1 a2 a3 a4 a5 a6) (impl_Point.f (k + 1) a0 a1 a2 a3 a4 a5 a6) := by
 intro a0 a1 a2 a3 a4 a5 a6 k
 unfold impl_Point.f
 repeat' first
   | (with_reducible exact impl_open.mono _ _ _ _ _ _ _)
   | (with_reducible exact LeO.refl _)
   | (with_reducible exact LeO.none _)
   | (with_reducible refine LeO.ite ?_ ?_)
   | (with_reducible refine LeO.bind ?_ (fun _ => ?_))
   | exact impl_open.mono _ _ _ _ _ _ _
   | exact LeO.none _
   | refine LeO.ite ?_ ?_
   | refine LeO.bind ?_ (fun _ => ?_)
set_option maxHeartbeats 8000000 in
set_option maxRecDepth 100000 in
theorem impl_Point.calls (k : Nat) (a0_0 : Int) (a0_1 : Bool) (a0_2 : Int) (a0_3 : Int) (a0_4 : Int) (a0_5 : Int) (a1 : Int) (r1 : Int) (r2 : Bool) (r3 : Int) (r4 : Int) (r5 : Int) (r6 : Int) (w : World) (h : impl_Point.f k a0_0 a0_1 a0_2 a0_3 a0_4 a0_5 a1 = some (r1, r2, r3, r4, r5, r6)) :
  Calls Try.prog 15 #[.agg #[.int .i64 a0_0, .bool a0_1, .int .i64 a0_2, .int .i64 a0_3, .int .i64 a0_4, .int .i64 a0_5], .int .i64 a1] w fun e w' => e = .returned (.agg #[.int .i64 r1, .bool r2, .int .i64 r3, .int .i64 r4, .int .i64 r5, .int .i64 r6]) ∧ Below w.heap.size w w' := by
 have hu27 := Try.underlying27; have hu25 := Try.underlying25; have HB := Aside0.mk (Below.refl w.heap.size w); have H : ((impl_Plain.f a1).bind fun bl => ((impl_open.f k a0_0 a0_1 a0_2 a0_3 a0_4 a0_5).bind fun bD => (if bD = true then (some (bl.1, true, a0_2, a0_3, a0_4, a0_5)) else (some (bl.1, bl.2.1, bl.2.2.1, bl.2.2.2.1, bl.2.2.2.2.1, bl.2.2.2.2.2))))) = some (r1, r2, r3, r4, r5, r6) := h; clear h; replace H := Option.bind_eq_some_iff.mp H; obtain ⟨⟨bo, bv, bw, bx, bz, bA⟩, A30, H⟩ := H; replace H : ((impl_open.f k a0_0 a0_1 a0_2 a0_3 a0_4 a0_5).bind fun bD => (if bD = true then (some (bo, true, a0_2, a0_3, a0_4, a0_5)) else (some (bo, bv, bw, bx, bz, bA)))) = some (r1, r2, r3, r4, r5, r6) := H; have A3 := Aside0.mk A30; clear A30; replace H := Option.bind_eq_some_iff.mp H; obtain ⟨bD, A40, H⟩ := H; replace H : (if bD = true then (some (bo, true, a0_2, a0_3, a0_4, a0_5)) else (some (bo, bv, bw, bx, bz, bA))) = some (r1, r2, r3, r4, r5, r6) := H; have A4 := Aside0.mk A40; clear A40
 by_cases c5 : bD = true
 ·subst c5
  have H1 : (some (bo, true, a0_2, a0_3, a0_4, a0_5)) = some (r1, r2, r3, r4, r5, r6) := by rw [if_pos rfl] at H; exact H
  clear H; have H := H1; clear H1; simp only [Option.some.injEq, Prod.mk.injEq] at H; obtain ⟨rfl, rfl, rfl, rfl, rfl, rfl⟩ := H
  go_enter Try.func15, Try.ntmps15
  try go_wp2_with (first | ((with_reducible refine gate_dst (N := 2) rfl ?_); refine bxe 2 #[.int .i64 a0_0, .bool a0_1, .int .i64 a0_2, .int .i64 a0_3, .int .i64 a0_4, .int .i64 a0_5] 27 ?_; intro bI hg w6 hbox hb; have bc := hbox; have eV := nge HB hg; have eW := nge HB hg; replace HB := nbs HB hb; clear hb hbox hg) | ((with_reducible refine gate_dst (N := 4) rfl ?_); refine bxe 4 #[.int .i64 0, .bool false, .int .i64 0, .int .i64 0, .int .i64 0, .int .i64 0] 27 ?_; intro dk hg w7 hbox hb; have bd := hbox; have eX := nge HB hg; have eY := nge HB hg; have dl := nlt bc hg; have dm := ngt bc hg; replace bc := nblk bc hb; replace HB := nbs HB hb; clear hb hbox hg) | ((with_reducible refine gate_callee (f := 44) rfl ?_); refine goesM (some 7) rfl rfl Try.func44 (by kernel_rfl) rfl #[.int .i64 a1] rfl ?_; (with_reducible refine (impl_Plain.calls a1 bo bv bw bx bz bA _ A3.out).mono ?_); rintro e w8 ⟨rfl, hb⟩; refine ⟨_, rfl, ?_⟩; replace bc := nblk bc hb; replace bd := nblk bd hb; replace HB := nbs HB hb; (try clear hb)) | ((with_reducible refine gate_dst (N := 5) rfl ?_); refine bxe 5 #[.int .i64 0, .bool false, .int .i64 0, .int .i64 0, .int .i64 0, .int .i64 0] 27 ?_; intro bE hg w9 hbox hb; have bf := hbox; have eZ := nge HB hg; have e0 := nge HB hg; have bi := nlt bc hg; have bF := ngt bc hg; have bB := nlt bd hg; have bG := ngt bd hg; replace bc := nblk bc hb; replace bd := nblk bd hb; replace HB := nbs HB hb; clear hb hbox hg; have iS := bF.out; have iT := bi.out; have iU := bG.out; have iV := bB.out; obtain ⟨iW, iX, iY, iZ, i0, i1⟩ := c6e bf; obtain ⟨i2, i3, i4, i5, i6, i7⟩ := z6_ bf; have ei := dl.out; have ej := dm.out; obtain ⟨dx, dy, dz, dA, dB, dC⟩ := c6e bc; obtain ⟨dD, dE, dF, dG, dH, dI⟩ := z6_ bc) | ((with_reducible refine gate_callee (f := 64) rfl ?_); refine goesM (some 9) rfl rfl Try.func64 (by kernel_rfl) rfl #[.agg #[.int .i64 a0_0, .bool a0_1, .int .i64 a0_2, .int .i64 a0_3, .int .i64 a0_4, .int .i64 a0_5]] rfl ?_; (with_reducible refine (impl_open.calls k a0_0 a0_1 a0_2 a0_3 a0_4 a0_5 true _ A4.out).mono ?_); rintro e b1 ⟨rfl, hb⟩; refine ⟨_, rfl, ?_⟩; replace bc := nblk bc hb; replace bd := nblk bd hb; replace bf := Aside0.mk (blk_below (g := bE) (o := .cells #[.int .i64 bo, .bool bv, .int .i64 bw, .int .i64 bx, .int .i64 bz, .int .i64 bA] 27 (0, 0)) (q6 bf) hb); replace HB := nbs HB hb; (try clear hb)))
  replace bc := Aside0.mk (blk_drew bc.out); replace bd := Aside0.mk (blk_drew bd.out); replace bf := Aside0.mk (blk_drew bf.out); replace HB := Aside0.mk (below_drew1 HB.out); refine start_ (n := 6) (S := fun w' => w'.cell? ⟨bI, 0, none⟩ = some (.int .i64 a0_0) ∧ w'.cell? ⟨bI, 1, none⟩ = some (.bool a0_1) ∧ w'.cell? ⟨bI, 2, none⟩ = some (.int .i64 a0_2) ∧ w'.cell? ⟨bI, 3, none⟩ = some (.int .i64 a0_3) ∧ w'.cell? ⟨bI, 4, none⟩ = some (.int .i64 a0_4) ∧ w'.cell? ⟨bI, 5, none⟩ = some (.int .i64 a0_5)) (ds := []) #[false, false, false, false, false, false] (by kernel_rfl) rfl rfl (c6e bc) (fun hHeld => ?_); generalize b1.drew = bN at bc bd bf HB hHeld ⊢; refine rPk 0 10 #[true, false, false, false, false, false] ?_; refine rPk 2 12 #[true, false, true, false, false, false] ?_; refine rTk hHeld 1 11 #[true, true, true, false, false, false] ?_; refine one_ (i := 3) (N := none) #[true, true, true, true, false, false] rfl rfl (by kernel_rfl) (by decide) (fun K hK => ?_); have hs17 : bN.cell? ⟨bE, 1, none⟩ = some (.bool bv) := (blk_cell bf.out 1).trans rfl; have hfs17 := blk_frozen bf.out 1; have hns17_0 := bi.out; have hns17_1 := bB.out; have hms17_0 := bF.out; have hms17_1 := bG.out; refine skip_ (w1 := ?_) (by rfl) rfl ?_ ?_; rotate_left
  ·go_simp
   rfl
  refine hK.out _ _ ⟨(g1 bi.out hHeld.1), (g1 bi.out hHeld.2.1), (g1 bi.out hHeld.2.2.1), (g1 bi.out hHeld.2.2.2.1), (g1 bi.out hHeld.2.2.2.2.1), (g1 bi.out hHeld.2.2.2.2.2)⟩ (fun hHeld => ?_); clear hK K; refine rPk 4 13 #[true, true, true, true, true, false] ?_; refine one_ (i := 5) (N := none) #[true, true, true, true, true, true] rfl rfl (by kernel_rfl) (by decide) (fun K hK => ?_); have hs18 : bN.cell? ⟨bE, 2, none⟩ = some (.int .i64 bw) := (blk_cell bf.out 2).trans rfl; have hfs18 := blk_frozen bf.out 2; have hns18_0 := bi.out; have hns18_1 := bB.out; have hms18_0 := bF.out; have hms18_1 := bG.out; have hs19 : bN.cell? ⟨bE, 3, none⟩ = some (.int .i64 bx) := (blk_cell bf.out 3).trans rfl; have hfs19 := blk_frozen bf.out 3; have hns19_0 := bi.out; have hns19_1 := bB.out; have hms19_0 := bF.out; have hms19_1 := bG.out; have hs20 : bN.cell? ⟨bE, 4, none⟩ = some (.int .i64 bz) := (blk_cell bf.out 4).trans rfl; have hfs20 := blk_frozen bf.out 4; have hns20_0 := bi.out; have hns20_1 := bB.out; have hms20_0 := bF.out; have hms20_1 := bG.out; have hs21 : bN.cell? ⟨bE, 5, none⟩ = some (.int .i64 bA) := (blk_cell bf.out 5).trans rfl; have hfs21 := blk_frozen bf.out 5; have hns21_0 := bi.out; have hns21_1 := bB.out; have hms21_0 := bF.out; have hms21_1 := bG.out; refine skip_ (w1 := ?_) (by rfl) rfl ?_ ?_; rotate_left
  ·go_simp
   rfl
  refine hK.out _ _ ⟨(g4 bi.out hHeld.1), (g4 bi.out hHeld.2.1), (g4 bi.out hHeld.2.2.1), (g4 bi.out hHeld.2.2.2.1), (g4 bi.out hHeld.2.2.2.2.1), (g4 bi.out hHeld.2.2.2.2.2)⟩ (fun hHeld => ?_); clear hK K; refine done_ (by kernel_rfl) ?_; obtain ⟨dJ, dK, dL, dM, dN, dO⟩ := c6e bf; obtain ⟨dP, dQ, dR, dS, dT, dU⟩ := z6_ bf; obtain ⟨i8, i9, ja, jb, jc, jd⟩ := c6e bd; obtain ⟨je, jf, jg, jh, ji, jj⟩ := z6_ bd
  try go_wp2
  refine bodyPost_ret (results_cell_row rfl _ _ dk 27 #[.int .i64 bo, .bool true, .int .i64 a0_2, .int .i64 a0_3, .int .i64 a0_4, .int .i64 a0_5] (0, 0) _ rfl (p6 bd (k5_ bB.out (nb bd))) Try.underlying27 rfl (by kernel_rfl)) rfl ?_; exact ⟨er_, nbe HB⟩
 ·replace c5 := Bool.eq_false_iff.mpr c5
  subst c5; have H1 : (some (bo, bv, bw, bx, bz, bA)) = some (r1, r2, r3, r4, r5, r6) := by rw [if_neg (show ¬ (false = true) by decide)] at H; exact H
  clear H; have H := H1; clear H1; simp only [Option.some.injEq, Prod.mk.injEq] at H; obtain ⟨rfl, rfl, rfl, rfl, rfl, rfl⟩ := H
  go_enter Try.func15, Try.ntmps15
  go_wp2_with (first | ((with_reducible refine gate_dst (N := 2) rfl ?_); refine bxe 2 #[.int .i64 a0_0, .bool a0_1, .int .i64 a0_2, .int .i64 a0_3, .int .i64 a0_4, .int .i64 a0_5] 27 ?_; intro bI hg jk hbox hb; have bc := hbox; have eV := nge HB hg; have eW := nge HB hg; replace HB := nbs HB hb; clear hb hbox hg) | ((with_reducible refine gate_dst (N := 4) rfl ?_); refine bxe 4 #[.int .i64 0, .bool false, .int .i64 0, .int .i64 0, .int .i64 0, .int .i64 0] 27 ?_; intro dk hg jl hbox hb; have bd := hbox; have eX := nge HB hg; have eY := nge HB hg; have dl := nlt bc hg; have dm := ngt bc hg; replace bc := nblk bc hb; replace HB := nbs HB hb; clear hb hbox hg) | ((with_reducible refine gate_callee (f := 44) rfl ?_); refine goesM (some 7) rfl rfl Try.func44 (by kernel_rfl) rfl #[.int .i64 a1] rfl ?_; (with_reducible refine (impl_Plain.calls a1 bo bv bw bx bz bA _ A3.out).mono ?_); rintro e jm ⟨rfl, hb⟩; refine ⟨_, rfl, ?_⟩; replace bc := nblk bc hb; replace bd := nblk bd hb; replace HB := nbs HB hb; (try clear hb)) | ((with_reducible refine gate_dst (N := 5) rfl ?_); refine bxe 5 #[.int .i64 0, .bool false, .int .i64 0, .int .i64 0, .int .i64 0, .int .i64 0] 27 ?_; intro bE hg jn hbox hb; have bf := hbox; have eZ := nge HB hg; have e0 := nge HB hg; have bi := nlt bc hg; have bF := ngt bc hg; have bB := nlt bd hg; have bG := ngt bd hg; replace bc := nblk bc hb; replace bd := nblk bd hb; replace HB := nbs HB hb; clear hb hbox hg; have jo := bF.out; have jp := bi.out; have jq := bG.out; have jr := bB.out; obtain ⟨js, jt, ju, jv, jw, jx⟩ := c6e bf; obtain ⟨jy, jz, jA, jB, jC, jD⟩ := z6_ bf; have jE := dl.out; have jF := dm.out; obtain ⟨jG, jH, jI, jJ, jK, jL⟩ := c6e bc; obtain ⟨jM, jN, jO, jP, jQ, jR⟩ := z6_ bc) | ((with_reducible refine gate_callee (f := 64) rfl ?_); refine goesM (some 9) rfl rfl Try.func64 (by kernel_rfl) rfl #[.agg #[.int .i64 a0_0, .bool a0_1, .int .i64 a0_2, .int .i64 a0_3, .int .i64 a0_4, .int .i64 a0_5]] rfl ?_; (with_reducible refine (impl_open.calls k a0_0 a0_1 a0_2 a0_3 a0_4 a0_5 false _ A4.out).mono ?_); rintro e jS ⟨rfl, hb⟩; refine ⟨_, rfl, ?_⟩; replace bc := nblk bc hb; replace bd := nblk bd hb; replace bf := Aside0.mk (blk_below (g := bE) (o := .cells #[.int .i64 bo, .bool bv, .int .i64 bw, .int .i64 bx, .int .i64 bz, .int .i64 bA] 27 (0, 0)) (q6 bf) hb); replace HB := nbs HB hb; (try clear hb); obtain ⟨eJ, eK, eL, eM, eN, eO⟩ := c6e bf; obtain ⟨eP, eQ, eR, eS, eT, eU⟩ := z6_ bf; obtain ⟨jT, jU, jV, jW, jX, jY⟩ := c6e bd; obtain ⟨jZ, j1, j2, j3, j4, j5⟩ := z6_ bd))
  refine bodyPost_ret (results_cell_row rfl _ _ dk 27 #[.int .i64 bo, .bool bv, .int .i64 bw, .int .i64 bx, .int .i64 bz, .int .i64 bA] (0, 0) _ rfl (q6 bd) Try.underlying27 rfl (by kernel_rfl)) rfl ?_; exact ⟨er_, nbe HB⟩

/-- A state of type 90 at block g of W; what its slices lead to came in by w0. -/
def IsS90 (w0 W : World) (g : Nat) (f0 : List Int) (f1 : Int) (f2 : Int) : Prop := ∃ A0 c0, W.heap[g]? = some (.cells #[.slice A0 f0.length c0, .int .i64 f1, .int .i64 f2] 90 (0, 0)) ∧ w0.heap.size ≤ g ∧ Kd.C (Kd.int .u8) w0 A0 f0.length f0
theorem IsS90.grown {w0 W : World} {g : Nat} {f0 : List Int} {f1 : Int} {f2 : Int} {W1 : World} {row : Option Nat} (h : IsS90 w0 W g f0 f1 f2) (hw : W.grownBy W1 row) (hne : some g ≠ row) : IsS90 w0 W1 g f0 f1 f2 := by
 obtain ⟨A0, c0, hb, hg, hr0⟩ := h; exact ⟨A0, c0, blk_grown hb hw hne, hg, hr0⟩
theorem IsS90.own_neN {w0 W : World} {g : Nat} {f0 : List Int} {f1 : Int} {f2 : Int} {α : Type} {d : Kd α} {e : Nat} {base : Nat} {ok : Nat → Prop} {v : Value} {xs : List α} (h : IsS90 w0 W g f0 f1 f2) (ho : Kd.N d e W base ok v xs) (ht : e ≠ 90) : some g ≠ v.ownBlock := by
 obtain ⟨A0, c0, hb, hg, hr0⟩ := h; exact Kd.N_ne ho hb ht
theorem IsS90.fresh {w0 W : World} {g : Nat} {f0 : List Int} {f1 : Int} {f2 : Int} (h : IsS90 w0 W g f0 f1 f2) : ∀ k, W.heap.size ≤ k → k ≠ g := by
 obtain ⟨A0, c0, hb, hg, hr0⟩ := h; exact Kd.freshB hb
theorem IsS90.kept {w0 W : World} {g : Nat} {f0 : List Int} {f1 : Int} {f2 : Int} {W1 : World} {S : Nat → Prop} (h : IsS90 w0 W g f0 f1 f2) (hk : Kept W W1 S) (hne : ¬ S g) : IsS90 w0 W1 g f0 f1 f2 := by
 obtain ⟨A0, c0, hb, hg, hr0⟩ := h; exact ⟨A0, c0, blk_kept hb hk hne, hg, hr0⟩
theorem IsS90.below {w0 W : World} {g : Nat} {f0 : List Int} {f1 : Int} {f2 : Int} {W1 : World} (h : IsS90 w0 W g f0 f1 f2) (hw : Below W.heap.size W W1) : IsS90 w0 W1 g f0 f1 f2 := h.grown (grown_of_below hw none) (by simp)
theorem IsS90.alloc {w0 W : World} {g : Nat} {f0 : List Int} {f1 : Int} {f2 : Int} (h : IsS90 w0 W g f0 f1 f2) (o : Obj) : IsS90 w0 (W.alloc o) g f0 f1 f2 := h.below (below_alloc (Below.refl _ _) o)
theorem IsS90.drewN {w0 W : World} {g : Nat} {f0 : List Int} {f1 : Int} {f2 : Int} (h : IsS90 w0 W g f0 f1 f2) (m : Nat) : IsS90 w0 (W.drewN m) g f0 f1 f2 := h
theorem IsS90.drew {w0 W : World} {g : Nat} {f0 : List Int} {f1 : Int} {f2 : Int} (h : IsS90 w0 W g f0 f1 f2) : IsS90 w0 W.drew g f0 f1 f2 := h
theorem IsS90.at_ {w0 W : World} {g : Nat} {f0 : List Int} {f1 : Int} {f2 : Int} {w' : World} {m : Nat} (hq : W.drewN m = w') (h : IsS90 w0 W g f0 f1 f2) : IsS90 w0 w' g f0 f1 f2 := by subst hq; exact IsS90.drewN h m
theorem IsS90.apart {w0 W : World} {g : Nat} {f0 : List Int} {f1 : Int} {f2 : Int} {α : Type} {d : Kd α} {e : Nat} {base : Nat} {ok : Nat → Prop} {v : Value} {xs : List α} (h : IsS90 w0 W g f0 f1 f2) (ho : d.R e W base ok v xs) (ht : ∀ q, q ∈ e :: d.E → q ≠ 90) : d.R e W base (fun k => ok k ∧ k ≠ g) v xs := by
 obtain ⟨A0, c0, hb, hg, hr0⟩ := h; exact Kd.R_types ho hb ht
theorem IsS90.own_ne {w0 W : World} {g : Nat} {f0 : List Int} {f1 : Int} {f2 : Int} {α : Type} {d : Kd α} {e : Nat} {base : Nat} {ok : Nat → Prop} {v : Value} {xs : List α} (h : IsS90 w0 W g f0 f1 f2) (ho : d.R e W base ok v xs) (ht : e ≠ 90) : some g ≠ v.ownBlock := by
 obtain ⟨A0, c0, hb, hg, hr0⟩ := h; exact Kd.R_ne ho hb ht
theorem IsS90.apartQ {w0 W : World} {g : Nat} {f0 : List Int} {f1 : Int} {f2 : Int} {α : Type} {d : Kd α} {e : Nat} {base : Nat} {ok : Nat → Prop} {v : Value} {xs : List α} (h : IsS90 w0 W g f0 f1 f2) (ho : d.Q e W base ok v xs) (ht : ∀ q, q ∈ e :: d.E → q ≠ 90) : d.Q e W base (fun k => ok k ∧ k ≠ g) v xs := by
 obtain ⟨A0, c0, hb, hg, hr0⟩ := h; exact Kd.Q_types ho hb ht
theorem IsS90.own_neQ {w0 W : World} {g : Nat} {f0 : List Int} {f1 : Int} {f2 : Int} {α : Type} {d : Kd α} {e : Nat} {base : Nat} {ok : Nat → Prop} {v : Value} {xs : List α} (h : IsS90 w0 W g f0 f1 f2) (ho : d.Q e W base ok v xs) (ht : e ≠ 90) : some g ≠ v.ownBlock := by
 obtain ⟨A0, c0, hb, hg, hr0⟩ := h; exact Kd.Q_ne ho hb ht
theorem IsS90.apartS {w0 W : World} {g : Nat} {f0 : List Int} {f1 : Int} {f2 : Int} {α : Type} {d : Kd α} {e : Nat} {base : Nat} {ok : Nat → Prop} {v : Value} {xs : List α} (h : IsS90 w0 W g f0 f1 f2) (ho : d.S e W base ok v xs) (ht : ∀ q, q ∈ e :: d.E → q ≠ 90) : d.S e W base (fun k => ok k ∧ k ≠ g) v xs := by
 obtain ⟨A0, c0, hb, hg, hr0⟩ := h; exact Kd.S_types ho hb ht
theorem IsS90.own_neS {w0 W : World} {g : Nat} {f0 : List Int} {f1 : Int} {f2 : Int} {α : Type} {d : Kd α} {e : Nat} {base : Nat} {ok : Nat → Prop} {v : Value} {xs : List α} (h : IsS90 w0 W g f0 f1 f2) (ho : d.S e W base ok v xs) (ht : e ≠ 90) : some g ≠ v.ownBlock := by
 obtain ⟨A0, c0, hb, hg, hr0⟩ := h; exact Kd.S_ne ho hb ht
theorem IsS90.lt {w0 W : World} {g : Nat} {f0 : List Int} {f1 : Int} {f2 : Int} (h : IsS90 w0 W g f0 f1 f2) : g < W.heap.size := by
 obtain ⟨A0, c0, hb, hg, hr0⟩ := h; exact blk_lt hb
theorem IsS90.ge {w0 W : World} {g : Nat} {f0 : List Int} {f1 : Int} {f2 : Int} (h : IsS90 w0 W g f0 f1 f2) : w0.heap.size ≤ g := by
 obtain ⟨A0, c0, hb, hg, hr0⟩ := h; exact hg
theorem IsS90.ne_blk {w0 W : World} {g : Nat} {f0 : List Int} {f1 : Int} {f2 : Int} {a : Nat} {cs : Array Value} {t : TypeId} {fr : Nat × Nat} (h : IsS90 w0 W g f0 f1 f2) (hb2 : W.heap[a]? = some (.cells cs t fr)) (ht : t ≠ 90) : g ≠ a := by
 obtain ⟨A0, c0, hb, hg, hr0⟩ := h; rintro rfl; rw [hb] at hb2
 injection hb2 with hb2
 injection hb2 with _ ht2
 exact ht ht2.symm
theorem IsS90.far {w0 W : World} {g : Nat} {f0 : List Int} {f1 : Int} {f2 : Int} {p : Addr} (h : IsS90 w0 W g f0 f1 f2) (hne : g ≠ p.block) (u : Value) : IsS90 w0 (W.setCell p u) g f0 f1 f2 := by
 obtain ⟨A0, c0, hb, hg, hr0⟩ := h; exact ⟨A0, c0, blk_far hb hne u, hg, hr0⟩
theorem cellS90_0 {W : World} {g : Nat} {A0 : Option Addr} {c0 : Nat} {f0 : List Int} {f1 : Int} {f2 : Int} (h : W.heap[g]? = some (.cells #[.slice A0 f0.length c0, .int .i64 f1, .int .i64 f2] 90 (0, 0))) : W.cell? ⟨g, 0, none⟩ = some (.slice A0 f0.length c0) := (blk_cell h 0).trans rfl
theorem cellS90_1 {W : World} {g : Nat} {A0 : Option Addr} {c0 : Nat} {f0 : List Int} {f1 : Int} {f2 : Int} (h : W.heap[g]? = some (.cells #[.slice A0 f0.length c0, .int .i64 f1, .int .i64 f2] 90 (0, 0))) : W.cell? ⟨g, 1, none⟩ = some (.int .i64 f1) := (blk_cell h 1).trans rfl
theorem IsS90.set_1 {w0 W : World} {g : Nat} {f0 : List Int} {f1 : Int} {f2 : Int} (h : IsS90 w0 W g f0 f1 f2) (x : Int) : IsS90 w0 (W.setCell ⟨g, 1, none⟩ (.int .i64 x)) g f0 x f2 := by
 obtain ⟨A0, c0, hb, hg, hr0⟩ := h; exact ⟨A0, c0, by simpa using blk_set hb 1 (.int .i64 x), hg, hr0⟩
theorem cellS90_2 {W : World} {g : Nat} {A0 : Option Addr} {c0 : Nat} {f0 : List Int} {f1 : Int} {f2 : Int} (h : W.heap[g]? = some (.cells #[.slice A0 f0.length c0, .int .i64 f1, .int .i64 f2] 90 (0, 0))) : W.cell? ⟨g, 2, none⟩ = some (.int .i64 f2) := (blk_cell h 2).trans rfl
theorem IsS90.set_2 {w0 W : World} {g : Nat} {f0 : List Int} {f1 : Int} {f2 : Int} (h : IsS90 w0 W g f0 f1 f2) (x : Int) : IsS90 w0 (W.setCell ⟨g, 2, none⟩ (.int .i64 x)) g f0 f1 x := by
 obtain ⟨A0, c0, hb, hg, hr0⟩ := h; exact ⟨A0, c0, by simpa using blk_set hb 2 (.int .i64 x), hg, hr0⟩
theorem IsS90.new (w0 W : World) (A0 : Option Addr) (c0 : Nat) (f0 : List Int) (f1 : Int) (f2 : Int) (hB : Below w0.heap.size w0 W) (hr0 : Kd.C (Kd.int .u8) w0 A0 f0.length f0) : IsS90 w0 (W.alloc (.cells #[.slice A0 f0.length c0, .int .i64 f1, .int .i64 f2] 90)) W.heap.size f0 f1 f2 := ⟨A0, c0, by simpa using heap_alloc_new W _, hB.size, hr0⟩

theorem IsS90.n {w0 W : World} {g : Nat} {f0 : List Int} {f1 : Int} {f2 : Int} (h : IsS90 w0 W g f0 f1 f2 := by repeat (first | (with_reducible first | exact Aside0.out (by assumption) | apply IsS90.alloc | apply IsS90.drewN | apply IsS90.drew | apply IsS90.set_1 | apply IsS90.set_2 | refine IsS90.far ?_ (Aside0.out (by assumption)) _) | exact Aside0.out (by assumption))) : IsS90 w0 W g f0 f1 f2 := h
theorem IsS90.nb {w W : World} (h : Below w.heap.size w W := by repeat (first | (with_reducible first | exact Aside0.out (by assumption) | apply below_alloc | apply pw_below_drewN | apply below_drew1 | refine below_set ?_ (Aside0.out (by assumption)) | refine below_set ?_ (IsS90.ge (Aside0.out (by assumption)))) | exact Aside0.out (by assumption))) : Below w.heap.size w W := h
/-! ### spec_l1New: function 71 -/
def spec_l1New.l0 : Nat → List Int → Int → Int → Option (List Int × Int × Int)
 | 0, _, _, _ => none
 | k + 1, x0, x3, x4 => if x4 < (x0.length : Int) then (if x4 < 4000 then (if 0 ≤ x4 then (spec_l1New.l0 k x0 (Go.bits .and .i64 (wrap64 ((wrap64 ((wrap64 (x3 * 131)) + (wrap64 (rd x0 x4)))) + 7)) 1073741823) (wrap64 (x4 + 1))) else (none)) else (some (x0, 0, x3))) else (some (x0, 0, x3))
def spec_l1New.f (k : Nat) (l0 : List Int) : Option (List Int × Int × Int) := spec_l1New.l0 k l0 (wrap64 (19220 + (l0.length : Int))) 0
theorem spec_l1New.mono_l : ∀ k, (∀ y0 y1 y2, LeO (spec_l1New.l0 k y0 y1 y2) (spec_l1New.l0 (k + 1) y0 y1 y2))
 | 0 => fun _ _ _ r h => by simp [spec_l1New.l0] at h
 | k + 1 => by
  have ih0 := spec_l1New.mono_l k
  ·intro y0 y1 y2
   unfold spec_l1New.l0
   repeat' first
   | (with_reducible exact ih0 _ _ _)
   | (with_reducible exact LeO.refl _)
   | (with_reducible exact LeO.none _)
   | (with_reducible refine LeO.ite ?_ ?_)
   | (with_reducible refine LeO.bind ?_ (fun _ => ?_))
   | exact ih0 _ _ _
   | exact LeO.none _
   | refine LeO.ite ?_ ?_
   | refine LeO.bind ?_ (fun _ => ?_)
theorem spec_l1New.mono : ∀ a0 k, LeO (spec_l1New.f k a0) (spec_l1New.f (k + 1) a0) := by
 intro a0 k; have ih0 := spec_l1New.mono_l k
 unfold spec_l1New.f
 repeat' first
   | (with_reducible exact ih0 _ _ _)
   | (with_reducible exact LeO.refl _)
   | (with_reducible exact LeO.none _)
   | (with_reducible refine LeO.ite ?_ ?_)
   | (with_reducible refine LeO.bind ?_ (fun _ => ?_))
   | exact ih0 _ _ _
   | exact LeO.none _
   | refine LeO.ite ?_ ?_
   | refine LeO.bind ?_ (fun _ => ?_)
set_option maxHeartbeats 8000000 in
set_option maxRecDepth 100000 in
theorem spec_l1New.calls (k : Nat) (A0 : Option Addr) (c0 : Nat) (l0 : List Int) (r1 : List Int) (r2 : Int) (r3 : Int) (w0 w : World) (hB : Below w0.heap.size w0 w) (hr0 : Kd.C (Kd.int .u8) w0 A0 l0.length l0) (hc0 : l0.length ≤ c0) (h : spec_l1New.f k l0 = some (r1, r2, r3)) :
  Calls Try.prog 71 #[.slice A0 l0.length c0] w fun e w' => ∃ g_ : Nat, e = .returned (.pointer (some ⟨g_, 0, none⟩)) ∧ IsS90 w0 w' g_ r1 r2 r3 ∧ Below w0.heap.size w0 w' ∧ Below w.heap.size w w' := by
 have hu90 := Try.underlying90; have dn := Aside0.mk hr0; have j6 := Aside0.mk hc0; clear hr0 hc0; have HBW := Aside0.mk (Below.refl w.heap.size w); have HW0 := Aside0.mk hB.size; have HB := Aside0.mk hB; clear hB; have H : (spec_l1New.l0 k l0 (wrap64 (19220 + (l0.length : Int))) 0) = some (r1, r2, r3) := h; clear h; have H' := Aside0.mk H; clear H
 go_enter Try.func71, Try.ntmps71
 go_wp2
 go_loopg [3, 4] k (fun kq v3 v4 w' => ∃ (bH : Int) (bk : Int), v3 = .int .i64 bH ∧ v4 = .int .i64 bk ∧ Aside0 (spec_l1New.l0 kq l0 bH bk = some (r1, r2, r3)) ∧ Aside0 (kq ≤ k) ∧ Aside0 (Below w.heap.size w w') ∧ Aside0 (Below w0.heap.size w0 w'))
 case atStart => exact ⟨(wrap64 (19220 + (l0.length : Int))), (0), (by first | rfl | (simp; done) | (simp [*]; done)), (by first | rfl | (simp; done) | (simp [*]; done)), H', ⟨Nat.le_refl _⟩, ⟨nbe HBW⟩, ⟨nbe HB⟩⟩
 case round =>
  clear H'; obtain ⟨bH, bk, rfl, rfl, HA, dV, HBW, HB⟩ := hrel
  cases gk with
  | zero => exact absurd HA.out (by simp [spec_l1New.l0])
  | succ k1 =>
   have H := HA.out; clear HA; simp only [spec_l1New.l0] at H
   by_cases c2 : bk < (l0.length : Int)
   ·rw [if_pos c2] at H
    have c2b0 : decide (bk < (l0.length : Int)) = true := decide_eq_true c2; clear c2
    by_cases c3 : bk < 4000
    ·rw [if_pos c3] at H
     have c3b0 : decide (bk < 4000) = true := decide_eq_true c3; clear c3
     by_cases c4 : 0 ≤ bk
     ·rw [if_pos c4] at H
      have c4b0 : decide (0 ≤ bk) = true := decide_eq_true c4; clear c4; have H' := Aside0.mk H; clear H; have p182 : 0 ≤ (bk : Int) := of_decide_eq_true (by first | (with_reducible assumption) | assumption); have q182 : bk < (l0.length : Int) := of_decide_eq_true (by first | (with_reducible assumption) | assumption); obtain ⟨j7, e182, dW⟩ := Kd.at_int dn.out bk p182 q182
      cases e182
      replace dW := pw_cell_below HB.out dW; replace p182 := eq_true p182; replace q182 := eq_true q182; go_wp2
      go_roundg k1
      case measure => have := dV.out; omega
      case rel => exact ⟨(Go.bits .and .i64 (wrap64 ((wrap64 ((wrap64 (bH * 131)) + (wrap64 (rd l0 bk)))) + 7)) 1073741823), (wrap64 (bk + 1)), (by first | rfl | (simp; done) | (simp [*]; done)), (by first | rfl | (simp; done) | (simp [*]; done)), H', ⟨by have := dV.out; omega⟩, ⟨nbe HBW⟩, ⟨nbe HB⟩⟩
     ·rw [if_neg c4] at H
      exact absurd H (by simp)
    ·rw [if_neg c3] at H
     have c3b0 : decide (bk < 4000) = false := decide_eq_false c3; clear c3; simp only [Option.some.injEq, Prod.mk.injEq] at H; obtain ⟨rfl, rfl, rfl⟩ := H
     go_wp2_with (first | ((with_reducible refine gate_dst (N := 31) rfl ?_); refine bxe 31 #[.slice A0 l0.length c0, .int .i64 0, .int .i64 bH] 90 ?_; intro bX hg w5 hbox hb; have e1 := hbox; have j8 := Aside0.mk ((by rw [hg]; exact (below_size (nbe HBW)) : w.heap.size ≤ bX)); have e2 := Aside0.mk ((Nat.le_trans HW0.out (by rw [hg]; exact (below_size (nbe HBW)) : w.heap.size ≤ bX) : w0.heap.size ≤ bX)); replace HBW := Aside0.mk (below_step HBW.out hb); replace HB := nbs HB hb; clear hb hbox hg))
     go_ret
     exact ⟨_, rfl, (show IsS90 w0 _ bX l0 0 bH from ⟨_, _, nb e1, e2.out, dn.out⟩), nbe HB, nbe HBW⟩
   ·rw [if_neg c2] at H
    have c2b0 : decide (bk < (l0.length : Int)) = false := decide_eq_false c2; clear c2; simp only [Option.some.injEq, Prod.mk.injEq] at H; obtain ⟨rfl, rfl, rfl⟩ := H
    go_wp2_with (first | ((with_reducible refine gate_dst (N := 31) rfl ?_); refine bxe 31 #[.slice A0 l0.length c0, .int .i64 0, .int .i64 bH] 90 ?_; intro bY hg w6 hbox hb; have e3 := hbox; have j9 := Aside0.mk ((by rw [hg]; exact (below_size (nbe HBW)) : w.heap.size ≤ bY)); have e4 := Aside0.mk ((Nat.le_trans HW0.out (by rw [hg]; exact (below_size (nbe HBW)) : w.heap.size ≤ bY) : w0.heap.size ≤ bY)); replace HBW := Aside0.mk (below_step HBW.out hb); replace HB := nbs HB hb; clear hb hbox hg))
    go_ret
    exact ⟨_, rfl, (show IsS90 w0 _ bY l0 0 bH from ⟨_, _, nb e3, e4.out, dn.out⟩), nbe HB, nbe HBW⟩

/-! ### spec_l1Byte: function 98 -/
def spec_l1Byte.f (s0_0 : List Int) (s0_1 : Int) (s0_2 : Int) : Option (Int × Int × Int) := if s0_1 < (s0_0.length : Int) then (if 0 ≤ s0_1 then (some (Go.bits .and .i64 (wrap64 ((Go.bits .and .i64 (Go.bits .xor .i64 ((wrap64 ((wrap64 (s0_2 * 6364136223846793005)) + 1442695040888963407)) / 8589934592) ((wrap64 ((wrap64 (s0_2 * 6364136223846793005)) + 1442695040888963407)) / 35184372088832)) 255) + (wrap64 (rd s0_0 s0_1)))) 255, wrap64 (s0_1 + 1), wrap64 ((wrap64 (s0_2 * 6364136223846793005)) + 1442695040888963407))) else (none)) else (some (Go.bits .and .i64 (Go.bits .xor .i64 ((wrap64 ((wrap64 (s0_2 * 6364136223846793005)) + 1442695040888963407)) / 8589934592) ((wrap64 ((wrap64 (s0_2 * 6364136223846793005)) + 1442695040888963407)) / 35184372088832)) 255, s0_1, wrap64 ((wrap64 (s0_2 * 6364136223846793005)) + 1442695040888963407)))
set_option maxHeartbeats 8000000 in
set_option maxRecDepth 100000 in
theorem spec_l1Byte.calls (g : Nat) (s0_0 : List Int) (s0_1 : Int) (s0_2 : Int) (r1 : Int) (r2 : Int) (r3 : Int) (w0 w : World) (hI : IsS90 w0 w g s0_0 s0_1 s0_2) (hB : Below w0.heap.size w0 w) (h : spec_l1Byte.f s0_0 s0_1 s0_2 = some (r1, r2, r3)) :
  Calls Try.prog 98 #[.pointer (some ⟨g, 0, none⟩)] w fun e w' => e = .returned (.int .i64 r1) ∧ IsS90 w0 w' g s0_0 r2 r3 ∧ Below w0.heap.size w0 w' ∧ KeepBut w w' g none := by
 have HI0 := Aside0.mk hI; have HK := Aside0.mk (KeepBut.refl w g none); have HL := Aside0.mk hB.size; clear hI; have HW0 := Aside0.mk hB.size; have HB := Aside0.mk hB; clear hB; have H : (if s0_1 < (s0_0.length : Int) then (if 0 ≤ s0_1 then (some (Go.bits .and .i64 (wrap64 ((Go.bits .and .i64 (Go.bits .xor .i64 ((wrap64 ((wrap64 (s0_2 * 6364136223846793005)) + 1442695040888963407)) / 8589934592) ((wrap64 ((wrap64 (s0_2 * 6364136223846793005)) + 1442695040888963407)) / 35184372088832)) 255) + (wrap64 (rd s0_0 s0_1)))) 255, wrap64 (s0_1 + 1), wrap64 ((wrap64 (s0_2 * 6364136223846793005)) + 1442695040888963407))) else (none)) else (some (Go.bits .and .i64 (Go.bits .xor .i64 ((wrap64 ((wrap64 (s0_2 * 6364136223846793005)) + 1442695040888963407)) / 8589934592) ((wrap64 ((wrap64 (s0_2 * 6364136223846793005)) + 1442695040888963407)) / 35184372088832)) 255, s0_1, wrap64 ((wrap64 (s0_2 * 6364136223846793005)) + 1442695040888963407)))) = some (r1, r2, r3) := h; clear h
 by_cases c2 : s0_1 < (s0_0.length : Int)
 ·rw [if_pos c2] at H
  have c2b0 : decide (s0_1 < (s0_0.length : Int)) = true := decide_eq_true c2; clear c2
  by_cases c3 : 0 ≤ s0_1
  ·rw [if_pos c3] at H
   have c3b0 : decide (0 ≤ s0_1) = true := decide_eq_true c3; clear c3; simp only [Option.some.injEq, Prod.mk.injEq] at H; obtain ⟨rfl, rfl, rfl⟩ := H; obtain ⟨ASz4_0, cSz4_0, HGz4, hgz4, HSz4_0⟩ := HI0.out; have ka := cellS90_0 HGz4; have kb := cellS90_1 HGz4; have kc := cellS90_2 HGz4; have kd := blk_frozen HGz4 1; have ke := blk_frozen HGz4 2; clear HGz4 hgz4; have p185 : 0 ≤ (s0_1 : Int) := of_decide_eq_true (by first | (with_reducible assumption) | assumption); have q185 : s0_1 < (s0_0.length : Int) := of_decide_eq_true (by first | (with_reducible assumption) | assumption); obtain ⟨e5, e185, bO⟩ := Kd.at_int HSz4_0 s0_1 p185 q185
   cases e185
   have hn185_0 : e5.block ≠ g := Nat.ne_of_lt (Nat.lt_of_lt_of_le (by have := World.block_lt_of_cell? _ _ bO; first | rwa [add_block] at this | exact this) (IsS90.ge HI0.out)); replace bO := pw_cell_below HB.out bO; replace bO := (cell_far (p := ⟨g, 2, none⟩) (by first | (rw [add_block]; exact hn185_0) | (show (Addr.add _ _).block ≠ _; rw [add_block]; exact hn185_0) | exact hn185_0) (.int .i64 (wrap64 ((wrap64 (s0_2 * 6364136223846793005)) + 1442695040888963407)))).trans bO; (try have kf := fun (n_ : Nat) => (show (((w.drewN n_).setCell ⟨g, 2, none⟩ (.int .i64 (wrap64 ((wrap64 (s0_2 * 6364136223846793005)) + 1442695040888963407))))).cell? _ = some _ from bO)); clear hn185_0; replace p185 := eq_true p185; replace q185 := eq_true q185
   go_enter Try.func98, Try.ntmps98
   go_wp2
   repeat (go_quiet (fail); try go_wp2)
   go_ret
   exact ⟨er_, IsS90.n, IsS90.nb, nK HK⟩
  ·rw [if_neg c3] at H
   exact absurd H (by simp)
 ·rw [if_neg c2] at H
  have c2b0 : decide (s0_1 < (s0_0.length : Int)) = false := decide_eq_false c2; clear c2; simp only [Option.some.injEq, Prod.mk.injEq] at H; obtain ⟨rfl, rfl, rfl⟩ := H; obtain ⟨ASz5_0, cSz5_0, HGz5, hgz5, HSz5_0⟩ := HI0.out; have kg := cellS90_0 HGz5; have kh := cellS90_1 HGz5; have ki := cellS90_2 HGz5; have kj := blk_frozen HGz5 1; have kk := blk_frozen HGz5 2; clear HGz5 hgz5
  go_enter Try.func98, Try.ntmps98
  go_wp2
  repeat (go_quiet (fail); try go_wp2)
  go_ret
  exact ⟨er_, IsS90.n, IsS90.nb, nK HK⟩

/-! ### spec_l1Below: function 86 -/
def spec_l1Below.f (s0_0 : List Int) (s0_1 : Int) (s0_2 : Int) (a1 : Int) : Option (Int × Int × Int) := if a1 ≤ 0 then (some (0, s0_1, s0_2)) else (if a1 ≤ 256 then ((spec_l1Byte.f s0_0 s0_1 s0_2).bind fun bJ => (if a1 = 0 then (none) else (some (Int.tmod bJ.1 a1, bJ.2.1, bJ.2.2)))) else ((spec_l1Byte.f s0_0 s0_1 s0_2).bind fun bK => ((spec_l1Byte.f s0_0 bK.2.1 bK.2.2).bind fun bq => ((spec_l1Byte.f s0_0 bq.2.1 bq.2.2).bind fun bm => ((spec_l1Byte.f s0_0 bm.2.1 bm.2.2).bind fun bj => (if a1 = 0 then (none) else (some (Int.tmod (wrap64 ((wrap64 ((wrap64 ((wrap64 (bK.1 * 16777216)) + (wrap64 (bq.1 * 65536)))) + (wrap64 (bm.1 * 256)))) + bj.1)) a1, bj.2.1, bj.2.2))))))))
set_option maxHeartbeats 8000000 in
set_option maxRecDepth 100000 in
theorem spec_l1Below.calls (g : Nat) (s0_0 : List Int) (s0_1 : Int) (s0_2 : Int) (a1 : Int) (r1 : Int) (r2 : Int) (r3 : Int) (w0 w : World) (hI : IsS90 w0 w g s0_0 s0_1 s0_2) (hB : Below w0.heap.size w0 w) (h : spec_l1Below.f s0_0 s0_1 s0_2 a1 = some (r1, r2, r3)) :
  Calls Try.prog 86 #[.pointer (some ⟨g, 0, none⟩), .int .i64 a1] w fun e w' => e = .returned (.int .i64 r1) ∧ IsS90 w0 w' g s0_0 r2 r3 ∧ Below w0.heap.size w0 w' ∧ KeepBut w w' g none := by
 have HI0 := Aside0.mk hI; have HK := Aside0.mk (KeepBut.refl w g none); have HL := Aside0.mk hB.size; clear hI; have HW0 := Aside0.mk hB.size; have HB := Aside0.mk hB; clear hB; have H : (if a1 ≤ 0 then (some (0, s0_1, s0_2)) else (if a1 ≤ 256 then ((spec_l1Byte.f s0_0 s0_1 s0_2).bind fun bJ => (if a1 = 0 then (none) else (some (Int.tmod bJ.1 a1, bJ.2.1, bJ.2.2)))) else ((spec_l1Byte.f s0_0 s0_1 s0_2).bind fun bK => ((spec_l1Byte.f s0_0 bK.2.1 bK.2.2).bind fun bq => ((spec_l1Byte.f s0_0 bq.2.1 bq.2.2).bind fun bm => ((spec_l1Byte.f s0_0 bm.2.1 bm.2.2).bind fun bj => (if a1 = 0 then (none) else (some (Int.tmod (wrap64 ((wrap64 ((wrap64 ((wrap64 (bK.1 * 16777216)) + (wrap64 (bq.1 * 65536)))) + (wrap64 (bm.1 * 256)))) + bj.1)) a1, bj.2.1, bj.2.2))))))))) = some (r1, r2, r3) := h; clear h
 by_cases c3 : a1 ≤ 0
 ·rw [if_pos c3] at H
  have c3b0 : decide (a1 ≤ 0) = true := decide_eq_true c3; clear c3; simp only [Option.some.injEq, Prod.mk.injEq] at H; obtain ⟨rfl, rfl, rfl⟩ := H
  go_enter Try.func86, Try.ntmps86
  go_wp2
  go_ret
  exact ⟨er_, IsS90.n, IsS90.nb, nK HK⟩
 ·rw [if_neg c3] at H
  have c3b0 : decide (a1 ≤ 0) = false := decide_eq_false c3; clear c3
  by_cases c4 : a1 ≤ 256
  ·rw [if_pos c4] at H
   have c4b0 : decide (a1 ≤ 256) = true := decide_eq_true c4; clear c4; replace H := Option.bind_eq_some_iff.mp H; obtain ⟨⟨dX, dY, dZ⟩, A50, H⟩ := H; replace H : (if a1 = 0 then (none) else (some (Int.tmod dX a1, dY, dZ))) = some (r1, r2, r3) := H; have A5 := Aside0.mk A50; clear A50
   by_cases c6 : a1 = 0
   ·rw [if_pos c6] at H
    exact absurd H (by simp)
   ·rw [if_neg c6] at H
    have c6b0 : (a1 == 0) = false := beq_eq_false_iff_ne.mpr c6; have c6b1 : (a1 != 0) = true := bne_iff_ne.mpr c6; simp only [Option.some.injEq, Prod.mk.injEq] at H; obtain ⟨rfl, rfl, rfl⟩ := H
    go_enter Try.func86, Try.ntmps86
    go_wp2_with (first | ((with_reducible refine gate_callee (f := 98) rfl ?_); refine goesM (some 14) rfl rfl Try.func98 (by kernel_rfl) rfl #[.pointer (some ⟨g, 0, none⟩)] rfl ?_; (with_reducible refine (spec_l1Byte.calls g s0_0 s0_1 s0_2 dX dY dZ w0 _ ?side1 ?side2 A5.out).mono ?_); (case side1 => exact IsS90.n); (case side2 => exact IsS90.nb); rintro e w7 ⟨rfl, hi, hb, hk⟩; refine ⟨_, rfl, ?_⟩; replace HK := Aside0.mk (KeepBut.trans (nK HK) hk (.inl rfl)); replace HB := Aside0.mk (hb); replace HI0 := Aside0.mk (hi); (try clear hb)))
    go_ret
    exact ⟨er_, IsS90.n, IsS90.nb, nK HK⟩
  ·rw [if_neg c4] at H
   have c4b0 : decide (a1 ≤ 256) = false := decide_eq_false c4; clear c4; replace H := Option.bind_eq_some_iff.mp H; obtain ⟨⟨bQ, dp, dq⟩, A80, H⟩ := H; replace H : ((spec_l1Byte.f s0_0 dp dq).bind fun bq => ((spec_l1Byte.f s0_0 bq.2.1 bq.2.2).bind fun bm => ((spec_l1Byte.f s0_0 bm.2.1 bm.2.2).bind fun bj => (if a1 = 0 then (none) else (some (Int.tmod (wrap64 ((wrap64 ((wrap64 ((wrap64 (bQ * 16777216)) + (wrap64 (bq.1 * 65536)))) + (wrap64 (bm.1 * 256)))) + bj.1)) a1, bj.2.1, bj.2.2)))))) = some (r1, r2, r3) := H; have A8 := Aside0.mk A80; clear A80; replace H := Option.bind_eq_some_iff.mp H; obtain ⟨⟨bZ, dr, dt⟩, A90, H⟩ := H; replace H : ((spec_l1Byte.f s0_0 dr dt).bind fun bm => ((spec_l1Byte.f s0_0 bm.2.1 bm.2.2).bind fun bj => (if a1 = 0 then (none) else (some (Int.tmod (wrap64 ((wrap64 ((wrap64 ((wrap64 (bQ * 16777216)) + (wrap64 (bZ * 65536)))) + (wrap64 (bm.1 * 256)))) + bj.1)) a1, bj.2.1, bj.2.2))))) = some (r1, r2, r3) := H; have A9 := Aside0.mk A90; clear A90; replace H := Option.bind_eq_some_iff.mp H; obtain ⟨⟨du, dv, dw⟩, A100, H⟩ := H; replace H : ((spec_l1Byte.f s0_0 dv dw).bind fun bj => (if a1 = 0 then (none) else (some (Int.tmod (wrap64 ((wrap64 ((wrap64 ((wrap64 (bQ * 16777216)) + (wrap64 (bZ * 65536)))) + (wrap64 (du * 256)))) + bj.1)) a1, bj.2.1, bj.2.2)))) = some (r1, r2, r3) := H; have A10 := Aside0.mk A100; clear A100; replace H := Option.bind_eq_some_iff.mp H; obtain ⟨⟨d0, d1, d2⟩, A110, H⟩ := H; replace H : (if a1 = 0 then (none) else (some (Int.tmod (wrap64 ((wrap64 ((wrap64 ((wrap64 (bQ * 16777216)) + (wrap64 (bZ * 65536)))) + (wrap64 (du * 256)))) + d0)) a1, d1, d2))) = some (r1, r2, r3) := H; have A11 := Aside0.mk A110; clear A110
   by_cases c12 : a1 = 0
   ·rw [if_pos c12] at H
    exact absurd H (by simp)
   ·rw [if_neg c12] at H
    have c12b0 : (a1 == 0) = false := beq_eq_false_iff_ne.mpr c12; have c12b1 : (a1 != 0) = true := bne_iff_ne.mpr c12; simp only [Option.some.injEq, Prod.mk.injEq] at H; obtain ⟨rfl, rfl, rfl⟩ := H
    go_enter Try.func86, Try.ntmps86
    go_wp2_with (first | ((with_reducible refine gate_callee (f := 98) rfl ?_); refine goesM (some 18) rfl rfl Try.func98 (by kernel_rfl) rfl #[.pointer (some ⟨g, 0, none⟩)] rfl ?_; (with_reducible refine (spec_l1Byte.calls g s0_0 s0_1 s0_2 bQ dp dq w0 _ ?side1 ?side2 A8.out).mono ?_); (case side1 => exact IsS90.n); (case side2 => exact IsS90.nb); rintro e kl ⟨rfl, hi, hb, hk⟩; refine ⟨_, rfl, ?_⟩; replace HK := Aside0.mk (KeepBut.trans (nK HK) hk (.inl rfl)); replace HB := Aside0.mk (hb); replace HI0 := Aside0.mk (hi); (try clear hb)) | ((with_reducible refine gate_callee (f := 98) rfl ?_); refine goesM (some 20) rfl rfl Try.func98 (by kernel_rfl) rfl #[.pointer (some ⟨g, 0, none⟩)] rfl ?_; (with_reducible refine (spec_l1Byte.calls g s0_0 dp dq bZ dr dt w0 _ ?side1 ?side2 A9.out).mono ?_); (case side1 => exact IsS90.n); (case side2 => exact IsS90.nb); rintro e km ⟨rfl, hi, hb, hk⟩; refine ⟨_, rfl, ?_⟩; replace HK := Aside0.mk (KeepBut.trans (nK HK) hk (.inl rfl)); replace HB := Aside0.mk (hb); replace HI0 := Aside0.mk (hi); (try clear hb)) | ((with_reducible refine gate_callee (f := 98) rfl ?_); refine goesM (some 22) rfl rfl Try.func98 (by kernel_rfl) rfl #[.pointer (some ⟨g, 0, none⟩)] rfl ?_; (with_reducible refine (spec_l1Byte.calls g s0_0 dr dt du dv dw w0 _ ?side1 ?side2 A10.out).mono ?_); (case side1 => exact IsS90.n); (case side2 => exact IsS90.nb); rintro e b1 ⟨rfl, hi, hb, hk⟩; refine ⟨_, rfl, ?_⟩; replace HK := Aside0.mk (KeepBut.trans (nK HK) hk (.inl rfl)); replace HB := Aside0.mk (hb); replace HI0 := Aside0.mk (hi); (try clear hb)) | ((with_reducible refine gate_callee (f := 98) rfl ?_); refine goesM (some 24) rfl rfl Try.func98 (by kernel_rfl) rfl #[.pointer (some ⟨g, 0, none⟩)] rfl ?_; (with_reducible refine (spec_l1Byte.calls g s0_0 dv dw d0 d1 d2 w0 _ ?side1 ?side2 A11.out).mono ?_); (case side1 => exact IsS90.n); (case side2 => exact IsS90.nb); rintro e bN ⟨rfl, hi, hb, hk⟩; refine ⟨_, rfl, ?_⟩; replace HK := Aside0.mk (KeepBut.trans (nK HK) hk (.inl rfl)); replace HB := Aside0.mk (hb); replace HI0 := Aside0.mk (hi); (try clear hb)))
    go_ret
    exact ⟨er_, IsS90.n, IsS90.nb, nK HK⟩

end Go.Proofs.Ytiliggbholjdjaa.PFnSealed
