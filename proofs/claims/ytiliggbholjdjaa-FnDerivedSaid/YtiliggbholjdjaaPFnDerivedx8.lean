-- Written by a program of this session (wip/patch.py turns a copy of the kit's print): the functions that the law reaches, and their walks.
import Derived.Test.YtiliggbholjdjaaPFnDerivedx0
import Derived.Test.YtiliggbholjdjaaPFnDerivedx1
import Derived.Test.YtiliggbholjdjaaPFnDerivedx5
import Derived.Test.YtiliggbholjdjaaPFnDerivedx6
import Derived.Test.YtiliggbholjdjaaPFnDerivedx7
import Derived.Test.YtiliggbholjdjaaCFnDerived
namespace Go.Proofs.Ytiliggbholjdjaa.PFnDerived
open Go.RowKit Go.Proofs.YtiliggbholjdjaaW.PrintWords Go.Proofs.YtiliggbholjdjaaW.PrintLast Go.Proofs.YtiliggbholjdjaaW.PrintMore Go.Proofs.YtiliggbholjdjaaW.Mine
attribute [local go_sem] max2_int min2_int max_two min_two max_three min_three max_four min_four   -- for this text's walks alone
set_option linter.unusedVariables false
set_option linter.unusedSimpArgs false

attribute [local go_sem high] eqA25
/-! ### impl_Narrow: function 13 -/
def impl_Narrow.j0 : Nat → Int → Bool → Int → Bool → Int → Int → Int → Int → Option (Int × Bool × Int × Int × Int × Int)
 | 0, _, _, _, _, _, _, _, _ => none
 | k + 1, x1, e6, bO, bW, bX, bY, bZ, b0 => if e6 = true then ((impl_Bare.f bO bW bX bY bZ b0).bind fun bq => (some (bq.1, bq.2.1, bq.2.2.1, bq.2.2.2.1, bq.2.2.2.2.1, bq.2.2.2.2.2))) else ((impl_Wide.f k bO (wrap64 (bO + x1))).bind fun bw => (if bw.1 < bX then ((impl_Bare.f bO bW bX bY bZ b0).bind fun bi => (some (bi.1, bi.2.1, bi.2.2.1, bi.2.2.2.1, bi.2.2.2.2.1, bi.2.2.2.2.2))) else (if bw.2 > bY then ((impl_Bare.f bO bW bX bY bZ b0).bind fun bj => (some (bj.1, bj.2.1, bj.2.2.1, bj.2.2.2.1, bj.2.2.2.2.1, bj.2.2.2.2.2))) else (some (bO, bW, bw.1, bw.2, bZ, b0)))))
def impl_Narrow.f (k : Nat) (a0_0 : Int) (a0_1 : Bool) (a0_2 : Int) (a0_3 : Int) (a0_4 : Int) (a0_5 : Int) (a1 : Int) : Option (Int × Bool × Int × Int × Int × Int) := (impl_open.f k a0_0 a0_1 a0_2 a0_3 a0_4 a0_5).bind fun bP => (if bP = true then (if a1 < 0 then (impl_Narrow.j0 k a1 true a0_0 a0_1 a0_2 a0_3 a0_4 a0_5) else (if a1 > 4096 then (impl_Narrow.j0 k a1 true a0_0 a0_1 a0_2 a0_3 a0_4 a0_5) else ((impl_BoundsOk.f a0_0 (wrap64 (a0_0 + a1))).bind fun bu => (impl_Narrow.j0 k a1 (!bu) a0_0 a0_1 a0_2 a0_3 a0_4 a0_5)))) else (impl_Narrow.j0 k a1 true a0_0 a0_1 a0_2 a0_3 a0_4 a0_5))
theorem impl_Narrow.mono_l : ∀ k, (∀ y0 y1 y2 y3 y4 y5 y6 y7, LeO (impl_Narrow.j0 k y0 y1 y2 y3 y4 y5 y6 y7) (impl_Narrow.j0 (k + 1) y0 y1 y2 y3 y4 y5 y6 y7))
 | 0 => fun _ _ _ _ _ _ _ _ r h => by simp [impl_Narrow.j0] at h
 | k + 1 => by
  have ih0 := impl_Narrow.mono_l k
  ·intro y0 y1 y2 y3 y4 y5 y6 y7
   unfold impl_Narrow.j0
   repeat' first
   | (with_reducible exact ih0 _ _ _ _ _ _ _ _)
   | (with_reducible exact impl_Wide.mono _ _ _)
   | (with_reducible exact impl_open.mono _ _ _ _ _ _ _)
   | (with_reducible exact LeO.refl _)
   | (with_reducible exact LeO.none _)
   | (with_reducible refine LeO.ite ?_ ?_)
   | (with_reducible refine LeO.bind ?_ (fun _ => ?_))
   | exact ih0 _ _ _ _ _ _ _ _
   | exact impl_Wide.mono _ _ _
   | exact impl_open.mono _ _ _ _ _ _ _
   | exact LeO.none _
   | refine LeO.ite ?_ ?_
   | refine LeO.bind ?_ (fun _ => ?_)
theorem impl_Narrow.mono : ∀ a0 a1 a2 a3 a4 a5 a6 k, LeO (impl_Narrow.f k a0 a1 a2 a3 a4 a5 a6) (impl_Narrow.f (k + 1) a0 a1 a2 a3 a4 a5 a6) := by
 intro a0 a1 a2 a3 a4 a5 a6 k; have ih0 := impl_Narrow.mono_l k
 unfold impl_Narrow.f
 repeat' first
   | (with_reducible exact ih0 _ _ _ _ _ _ _ _)
   | (with_reducible exact impl_Wide.mono _ _ _)
   | (with_reducible exact impl_open.mono _ _ _ _ _ _ _)
   | (with_reducible exact LeO.refl _)
   | (with_reducible exact LeO.none _)
   | (with_reducible refine LeO.ite ?_ ?_)
   | (with_reducible refine LeO.bind ?_ (fun _ => ?_))
   | exact ih0 _ _ _ _ _ _ _ _
   | exact impl_Wide.mono _ _ _
   | exact impl_open.mono _ _ _ _ _ _ _
   | exact LeO.none _
   | refine LeO.ite ?_ ?_
   | refine LeO.bind ?_ (fun _ => ?_)
set_option maxHeartbeats 8000000 in
set_option maxRecDepth 100000 in
theorem impl_Narrow.calls (k : Nat) (a0_0 : Int) (a0_1 : Bool) (a0_2 : Int) (a0_3 : Int) (a0_4 : Int) (a0_5 : Int) (a1 : Int) (r1 : Int) (r2 : Bool) (r3 : Int) (r4 : Int) (r5 : Int) (r6 : Int) (w : World) (h : impl_Narrow.f k a0_0 a0_1 a0_2 a0_3 a0_4 a0_5 a1 = some (r1, r2, r3, r4, r5, r6)) :
  Calls Try.prog 13 #[.agg #[.int .i64 a0_0, .bool a0_1, .int .i64 a0_2, .int .i64 a0_3, .int .i64 a0_4, .int .i64 a0_5], .int .i64 a1] w fun e w' => e = .returned (.agg #[.int .i64 r1, .bool r2, .int .i64 r3, .int .i64 r4, .int .i64 r5, .int .i64 r6]) ∧ Below w.heap.size w w' := by
 have hu27 := Try.underlying27; have HB := Aside0.mk (Below.refl w.heap.size w); have H : ((impl_open.f k a0_0 a0_1 a0_2 a0_3 a0_4 a0_5).bind fun bP => (if bP = true then (if a1 < 0 then (impl_Narrow.j0 k a1 true a0_0 a0_1 a0_2 a0_3 a0_4 a0_5) else (if a1 > 4096 then (impl_Narrow.j0 k a1 true a0_0 a0_1 a0_2 a0_3 a0_4 a0_5) else ((impl_BoundsOk.f a0_0 (wrap64 (a0_0 + a1))).bind fun bu => (impl_Narrow.j0 k a1 (!bu) a0_0 a0_1 a0_2 a0_3 a0_4 a0_5)))) else (impl_Narrow.j0 k a1 true a0_0 a0_1 a0_2 a0_3 a0_4 a0_5))) = some (r1, r2, r3, r4, r5, r6) := h; clear h; have df := Aside0.mk H; clear H
 go_enter Try.func13, Try.ntmps13
 go_upto_region 1 with (first | ((with_reducible refine gate_dst (N := 2) rfl ?_); refine bxe 2 #[.int .i64 a0_0, .bool a0_1, .int .i64 a0_2, .int .i64 a0_3, .int .i64 a0_4, .int .i64 a0_5] 27 ?_; intro e7 hg w4 hbox hb; have ba := hbox; have ht := nge HB hg; have hu := nge HB hg; replace HB := nbs HB hb; clear hb hbox hg) | ((with_reducible refine gate_dst (N := 4) rfl ?_); refine bxe 4 #[.int .i64 0, .bool false, .int .i64 0, .int .i64 0, .int .i64 0, .int .i64 0] 27 ?_; intro bU hg w5 hbox hb; have bb := hbox; have hv := nge HB hg; have hw := nge HB hg; have bH := nlt ba hg; have bx := ngt ba hg; replace ba := nblk ba hb; replace HB := nbs HB hb; clear hb hbox hg))
 (try simp only [Act.put, List.setIfInBounds_toArray, List.set_cons_zero, List.set_cons_succ])
 go_cut [27] (fun e8 wc => ∃ (kq : Nat) (b1 : Bool), e8 = .bool b1 ∧ Aside0 (impl_Narrow.j0 kq a1 b1 a0_0 a0_1 a0_2 a0_3 a0_4 a0_5 = some (r1, r2, r3, r4, r5, r6)) ∧ Aside0 (kq ≤ k) ∧ Aside0 (wc.heap[e7]? = some (.cells #[.int .i64 a0_0, .bool a0_1, .int .i64 a0_2, .int .i64 a0_3, .int .i64 a0_4, .int .i64 a0_5] 27 (0, 0))) ∧ Aside0 (wc.heap[bU]? = some (.cells #[.int .i64 0, .bool false, .int .i64 0, .int .i64 0, .int .i64 0, .int .i64 0] 27 (0, 0))) ∧ Aside0 (Below w.heap.size w wc))
 case first =>
  have H := df.out; clear df; replace H := Option.bind_eq_some_iff.mp H; obtain ⟨bP, A60, H⟩ := H; replace H : (if bP = true then (if a1 < 0 then (impl_Narrow.j0 k a1 true a0_0 a0_1 a0_2 a0_3 a0_4 a0_5) else (if a1 > 4096 then (impl_Narrow.j0 k a1 true a0_0 a0_1 a0_2 a0_3 a0_4 a0_5) else ((impl_BoundsOk.f a0_0 (wrap64 (a0_0 + a1))).bind fun bu => (impl_Narrow.j0 k a1 (!bu) a0_0 a0_1 a0_2 a0_3 a0_4 a0_5)))) else (impl_Narrow.j0 k a1 true a0_0 a0_1 a0_2 a0_3 a0_4 a0_5)) = some (r1, r2, r3, r4, r5, r6) := H; have A6 := Aside0.mk A60; clear A60
  by_cases c7 : bP = true
  ·subst c7
   have H1 : (if a1 < 0 then (impl_Narrow.j0 k a1 true a0_0 a0_1 a0_2 a0_3 a0_4 a0_5) else (if a1 > 4096 then (impl_Narrow.j0 k a1 true a0_0 a0_1 a0_2 a0_3 a0_4 a0_5) else ((impl_BoundsOk.f a0_0 (wrap64 (a0_0 + a1))).bind fun bu => (impl_Narrow.j0 k a1 (!bu) a0_0 a0_1 a0_2 a0_3 a0_4 a0_5)))) = some (r1, r2, r3, r4, r5, r6) := by rw [if_pos rfl] at H; exact H
   clear H; have H := H1; clear H1
   by_cases c8 : a1 < 0
   ·rw [if_pos c8] at H
    have c8b0 : decide (a1 < 0) = true := decide_eq_true c8; clear c8; (first | rw [c8b0] | (simp only [i64_w, i32_w]; rw [c8b0]) | skip); have H' := Aside0.mk H; clear H; have hx := bH.out; have hy := bx.out; obtain ⟨dg, dh, di, dj, dk, dl⟩ := c6e ba; obtain ⟨dm, dn, dp, dq, dr, dt⟩ := z6_ ba
    go_wp2_with (first | ((with_reducible refine gate_callee (f := 64) rfl ?_); refine goesM (some 8) rfl rfl Try.func64 (by kernel_rfl) rfl #[.agg #[.int .i64 a0_0, .bool a0_1, .int .i64 a0_2, .int .i64 a0_3, .int .i64 a0_4, .int .i64 a0_5]] rfl ?_; (with_reducible refine (impl_open.calls k a0_0 a0_1 a0_2 a0_3 a0_4 a0_5 true _ A6.out).mono ?_); rintro e e9 ⟨rfl, hb⟩; refine ⟨_, rfl, ?_⟩; replace ba := nblk ba hb; replace bb := nblk bb hb; replace HB := nbs HB hb; (try clear hb)))
    go_meet
    case rel => exact ⟨_, (true), (by first | rfl | (simp; done) | (simp [*]; done)), H', ⟨by first | omega | exact Nat.le_refl _⟩, ⟨nb ba⟩, ⟨nb bb⟩, ⟨nbe HB⟩⟩
   ·rw [if_neg c8] at H
    have c8b0 : decide (a1 < 0) = false := decide_eq_false c8; clear c8; (first | rw [c8b0] | (simp only [i64_w, i32_w]; rw [c8b0]) | skip)
    by_cases c12 : a1 > 4096
    ·rw [if_pos c12] at H
     have c12b0 : decide (4096 < a1) = true := decide_eq_true c12; clear c12; have H' := Aside0.mk H; clear H; have ga := bH.out; have gb := bx.out; obtain ⟨du, dv, dw, dx, dy, dz⟩ := c6e ba; obtain ⟨dA, dB, dC, dD, dE, dF⟩ := z6_ ba
     go_wp2_with (first | ((with_reducible refine gate_callee (f := 64) rfl ?_); refine goesM (some 8) rfl rfl Try.func64 (by kernel_rfl) rfl #[.agg #[.int .i64 a0_0, .bool a0_1, .int .i64 a0_2, .int .i64 a0_3, .int .i64 a0_4, .int .i64 a0_5]] rfl ?_; (with_reducible refine (impl_open.calls k a0_0 a0_1 a0_2 a0_3 a0_4 a0_5 true _ A6.out).mono ?_); rintro e dG ⟨rfl, hb⟩; refine ⟨_, rfl, ?_⟩; replace ba := nblk ba hb; replace bb := nblk bb hb; replace HB := nbs HB hb; (try clear hb)))
     go_meet
     case rel => exact ⟨_, (true), (by first | rfl | (simp; done) | (simp [*]; done)), H', ⟨by first | omega | exact Nat.le_refl _⟩, ⟨nb ba⟩, ⟨nb bb⟩, ⟨nbe HB⟩⟩
    ·rw [if_neg c12] at H
     have c12b0 : decide (4096 < a1) = false := decide_eq_false c12; clear c12; replace H := Option.bind_eq_some_iff.mp H; obtain ⟨bu, A160, H⟩ := H; replace H : (impl_Narrow.j0 k a1 (!bu) a0_0 a0_1 a0_2 a0_3 a0_4 a0_5) = some (r1, r2, r3, r4, r5, r6) := H; have A16 := Aside0.mk A160; clear A160; have H' := Aside0.mk H; clear H; have hz := bH.out; have hA := bx.out; obtain ⟨ep, er, es, et, eu, ev⟩ := c6e ba; obtain ⟨ew, ex, ey, ez, eA, eB⟩ := z6_ ba
     go_wp2_with (first | ((with_reducible refine gate_callee (f := 64) rfl ?_); refine goesM (some 8) rfl rfl Try.func64 (by kernel_rfl) rfl #[.agg #[.int .i64 a0_0, .bool a0_1, .int .i64 a0_2, .int .i64 a0_3, .int .i64 a0_4, .int .i64 a0_5]] rfl ?_; (with_reducible refine (impl_open.calls k a0_0 a0_1 a0_2 a0_3 a0_4 a0_5 true _ A6.out).mono ?_); rintro e gc ⟨rfl, hb⟩; refine ⟨_, rfl, ?_⟩; replace ba := nblk ba hb; replace bb := nblk bb hb; replace HB := nbs HB hb; (try clear hb); obtain ⟨eC, eD, eE, eF, eG, eH⟩ := c6e ba; obtain ⟨eI, eJ, eK, eL, eM, eN⟩ := z6_ ba) | (go_at_call 65; (with_reducible refine (impl_BoundsOk.calls a0_0 (wrap64 (a0_0 + a1)) bu _ A16.out).mono ?_); rintro e w' ⟨rfl, ⟨nd, rfl⟩⟩))
     go_meet
     case rel => exact ⟨_, (!bu), (by first | rfl | (simp; done) | (simp [*]; done)), H', ⟨by first | omega | exact Nat.le_refl _⟩, ⟨nb ba⟩, ⟨nb bb⟩, ⟨nbe HB⟩⟩
  ·replace c7 := Bool.eq_false_iff.mpr c7
   subst c7; have H1 : (impl_Narrow.j0 k a1 true a0_0 a0_1 a0_2 a0_3 a0_4 a0_5) = some (r1, r2, r3, r4, r5, r6) := by rw [if_neg (show ¬ (false = true) by decide)] at H; exact H
   clear H; have H := H1; clear H1; have H' := Aside0.mk H; clear H; have hB := bH.out; have hC := bx.out; obtain ⟨eO, eP, eQ, eR, eS, eT⟩ := c6e ba; obtain ⟨eU, eV, eW, eX, eY, eZ⟩ := z6_ ba
   go_wp2_with (first | ((with_reducible refine gate_callee (f := 64) rfl ?_); refine goesM (some 8) rfl rfl Try.func64 (by kernel_rfl) rfl #[.agg #[.int .i64 a0_0, .bool a0_1, .int .i64 a0_2, .int .i64 a0_3, .int .i64 a0_4, .int .i64 a0_5]] rfl ?_; (with_reducible refine (impl_open.calls k a0_0 a0_1 a0_2 a0_3 a0_4 a0_5 false _ A6.out).mono ?_); rintro e hD ⟨rfl, hb⟩; refine ⟨_, rfl, ?_⟩; replace ba := nblk ba hb; replace bb := nblk bb hb; replace HB := nbs HB hb; (try clear hb)))
   go_meet
   case rel => exact ⟨_, (true), (by first | rfl | (simp; done) | (simp [*]; done)), H', ⟨by first | omega | exact Nat.le_refl _⟩, ⟨nb ba⟩, ⟨nb bb⟩, ⟨nbe HB⟩⟩
 case rest =>
  clear df; try clear c1
  try clear c2
  try clear p2
  try clear c6
  try clear p6
  try clear c7
  try clear c8
  try clear c8b0
  try clear c9
  try clear c12
  try clear c12b0
  try clear c13
  try clear c17
  try clear c21
  try clear dg
  try clear dh
  try clear di
  try clear dj
  try clear dk
  try clear dl
  try clear du
  try clear dv
  try clear dw
  try clear dx
  try clear dy
  try clear dz
  try clear ep
  try clear er
  try clear es
  try clear et
  try clear eu
  try clear ev
  try clear eC
  try clear eD
  try clear eE
  try clear eF
  try clear eG
  try clear eH
  try clear eO
  try clear eP
  try clear eQ
  try clear eR
  try clear eS
  try clear eT
  try clear dm
  try clear dn
  try clear dp
  try clear dq
  try clear dr
  try clear dt
  try clear dA
  try clear dB
  try clear dC
  try clear dD
  try clear dE
  try clear dF
  try clear ew
  try clear ex
  try clear ey
  try clear ez
  try clear eA
  try clear eB
  try clear eI
  try clear eJ
  try clear eK
  try clear eL
  try clear eM
  try clear eN
  try clear eU
  try clear eV
  try clear eW
  try clear eX
  try clear eY
  try clear eZ
  obtain ⟨kq, b1, rfl, HA, hE, ba, bb, HB⟩ := hcut
  cases kq with
  | zero => exact absurd HA.out (by simp [impl_Narrow.j0])
  | succ kj2 =>
   have H := HA.out; clear HA; simp only [impl_Narrow.j0] at H
   by_cases c24 : b1 = true
   ·subst c24
    have H1 : ((impl_Bare.f a0_0 a0_1 a0_2 a0_3 a0_4 a0_5).bind fun bq => (some (bq.1, bq.2.1, bq.2.2.1, bq.2.2.2.1, bq.2.2.2.2.1, bq.2.2.2.2.2))) = some (r1, r2, r3, r4, r5, r6) := by rw [if_pos rfl] at H; exact H
    clear H; have H := H1; clear H1; replace H := Option.bind_eq_some_iff.mp H; obtain ⟨⟨dH, dI, dJ, dK, dL, dM⟩, A250, H⟩ := H; replace H : (some (dH, dI, dJ, dK, dL, dM)) = some (r1, r2, r3, r4, r5, r6) := H; have A25 := Aside0.mk A250; clear A250; simp only [Option.some.injEq, Prod.mk.injEq] at H; obtain ⟨rfl, rfl, rfl, rfl, rfl, rfl⟩ := H; have hF := bH.out; have hG := bx.out; obtain ⟨hH, hI, hJ, hL, hM, hN⟩ := c6e ba; obtain ⟨hO, hQ, hR, hS, hT, hU⟩ := z6_ ba
    go_wp2_with (first | ((with_reducible refine gate_callee (f := 48) rfl ?_); refine goesM (some 29) rfl rfl Try.func48 (by kernel_rfl) rfl #[.agg #[.int .i64 a0_0, .bool a0_1, .int .i64 a0_2, .int .i64 a0_3, .int .i64 a0_4, .int .i64 a0_5]] rfl ?_; (with_reducible refine (impl_Bare.calls a0_0 a0_1 a0_2 a0_3 a0_4 a0_5 dH dI dJ dK dL dM _ A25.out).mono ?_); rintro e hV ⟨rfl, hb⟩; refine ⟨_, rfl, ?_⟩; replace ba := nblk ba hb; replace bb := nblk bb hb; replace HB := nbs HB hb; (try clear hb); obtain ⟨hW, hX, hY, hZ, h0, h1⟩ := c6e bb; obtain ⟨h2, h3, h4, h5, h6, h7⟩ := z6_ bb))
    refine bodyPost_ret (results_cell_row rfl _ _ bU 27 #[.int .i64 dH, .bool dI, .int .i64 dJ, .int .i64 dK, .int .i64 dL, .int .i64 dM] (0, 0) _ rfl (q6 bb) Try.underlying27 rfl (by kernel_rfl)) rfl ?_; exact ⟨er_, nbe HB⟩
   ·replace c24 := Bool.eq_false_iff.mpr c24
    subst c24; have H1 : ((impl_Wide.f kj2 a0_0 (wrap64 (a0_0 + a1))).bind fun bw => (if bw.1 < a0_2 then ((impl_Bare.f a0_0 a0_1 a0_2 a0_3 a0_4 a0_5).bind fun bi => (some (bi.1, bi.2.1, bi.2.2.1, bi.2.2.2.1, bi.2.2.2.2.1, bi.2.2.2.2.2))) else (if bw.2 > a0_3 then ((impl_Bare.f a0_0 a0_1 a0_2 a0_3 a0_4 a0_5).bind fun bj => (some (bj.1, bj.2.1, bj.2.2.1, bj.2.2.2.1, bj.2.2.2.2.1, bj.2.2.2.2.2))) else (some (a0_0, a0_1, bw.1, bw.2, a0_4, a0_5))))) = some (r1, r2, r3, r4, r5, r6) := by rw [if_neg (show ¬ (false = true) by decide)] at H; exact H
    clear H; have H := H1; clear H1; replace H := Option.bind_eq_some_iff.mp H; obtain ⟨⟨bz, bA⟩, A300, H⟩ := H; replace H : (if bz < a0_2 then ((impl_Bare.f a0_0 a0_1 a0_2 a0_3 a0_4 a0_5).bind fun bi => (some (bi.1, bi.2.1, bi.2.2.1, bi.2.2.2.1, bi.2.2.2.2.1, bi.2.2.2.2.2))) else (if bA > a0_3 then ((impl_Bare.f a0_0 a0_1 a0_2 a0_3 a0_4 a0_5).bind fun bj => (some (bj.1, bj.2.1, bj.2.2.1, bj.2.2.2.1, bj.2.2.2.2.1, bj.2.2.2.2.2))) else (some (a0_0, a0_1, bz, bA, a0_4, a0_5)))) = some (r1, r2, r3, r4, r5, r6) := H; have A30 := Aside0.mk A300; clear A300
    by_cases c31 : bz < a0_2
    ·rw [if_pos c31] at H
     have c31b0 : decide (bz < a0_2) = true := decide_eq_true c31; clear c31; replace H := Option.bind_eq_some_iff.mp H; obtain ⟨⟨dN, dO, dP, dQ, dR, dS⟩, A320, H⟩ := H; replace H : (some (dN, dO, dP, dQ, dR, dS)) = some (r1, r2, r3, r4, r5, r6) := H; have A32 := Aside0.mk A320; clear A320; simp only [Option.some.injEq, Prod.mk.injEq] at H; obtain ⟨rfl, rfl, rfl, rfl, rfl, rfl⟩ := H; have h8 := bH.out; have h9 := bx.out; obtain ⟨gd, gf, gg, gh, gi, gj⟩ := c6e ba; obtain ⟨gl, gm, gn, gp, gq, gr⟩ := z6_ ba
     go_wp2_with (first | ((with_reducible refine gate_callee (f := 66) rfl ?_); refine goesM (some 37) rfl rfl Try.func66 (by kernel_rfl) rfl #[.int .i64 a0_0, .int .i64 (wrap64 (a0_0 + a1))] rfl ?_; (with_reducible refine (impl_Wide.calls kj2 a0_0 (wrap64 (a0_0 + a1)) bz bA _ A30.out).mono ?_); rintro e ia ⟨rfl, hb⟩; refine ⟨_, rfl, ?_⟩; replace ba := nblk ba hb; replace bb := nblk bb hb; replace HB := nbs HB hb; (try clear hb); obtain ⟨ib, ic, ig, ih, ii, ij⟩ := c6e ba; obtain ⟨ik, il, im, io, ip, iq⟩ := z6_ ba) | ((with_reducible refine gate_callee (f := 48) rfl ?_); refine goesM (some 53) rfl rfl Try.func48 (by kernel_rfl) rfl #[.agg #[.int .i64 a0_0, .bool a0_1, .int .i64 a0_2, .int .i64 a0_3, .int .i64 a0_4, .int .i64 a0_5]] rfl ?_; (with_reducible refine (impl_Bare.calls a0_0 a0_1 a0_2 a0_3 a0_4 a0_5 dN dO dP dQ dR dS _ A32.out).mono ?_); rintro e ir ⟨rfl, hb⟩; refine ⟨_, rfl, ?_⟩; replace ba := nblk ba hb; replace bb := nblk bb hb; replace HB := nbs HB hb; (try clear hb); obtain ⟨iu, iv, iw, ix, iy, iz⟩ := c6e bb; obtain ⟨iA, iB, iC, iD, iE, iF⟩ := z6_ bb))
     refine bodyPost_ret (results_cell_row rfl _ _ bU 27 #[.int .i64 dN, .bool dO, .int .i64 dP, .int .i64 dQ, .int .i64 dR, .int .i64 dS] (0, 0) _ rfl (q6 bb) Try.underlying27 rfl (by kernel_rfl)) rfl ?_; exact ⟨er_, nbe HB⟩
    ·rw [if_neg c31] at H
     have c31b0 : decide (bz < a0_2) = false := decide_eq_false c31; clear c31
     by_cases c39 : bA > a0_3
     ·rw [if_pos c39] at H
      have c39b0 : decide (a0_3 < bA) = true := decide_eq_true c39; clear c39; replace H := Option.bind_eq_some_iff.mp H; obtain ⟨⟨dT, dU, dV, dW, dX, dY⟩, A400, H⟩ := H; replace H : (some (dT, dU, dV, dW, dX, dY)) = some (r1, r2, r3, r4, r5, r6) := H; have A40 := Aside0.mk A400; clear A400; simp only [Option.some.injEq, Prod.mk.injEq] at H; obtain ⟨rfl, rfl, rfl, rfl, rfl, rfl⟩ := H; have iG := bH.out; have iH := bx.out; obtain ⟨iI, iJ, iK, iL, iM, iN⟩ := c6e ba; obtain ⟨iO, iP, iQ, iR, iS, iT⟩ := z6_ ba
      go_wp2_with (first | ((with_reducible refine gate_callee (f := 66) rfl ?_); refine goesM (some 37) rfl rfl Try.func66 (by kernel_rfl) rfl #[.int .i64 a0_0, .int .i64 (wrap64 (a0_0 + a1))] rfl ?_; (with_reducible refine (impl_Wide.calls kj2 a0_0 (wrap64 (a0_0 + a1)) bz bA _ A30.out).mono ?_); rintro e iU ⟨rfl, hb⟩; refine ⟨_, rfl, ?_⟩; replace ba := nblk ba hb; replace bb := nblk bb hb; replace HB := nbs HB hb; (try clear hb); obtain ⟨iV, iW, iX, iY, iZ, i0⟩ := c6e ba; obtain ⟨i1, i2, i3, i4, i5, i6⟩ := z6_ ba) | ((with_reducible refine gate_callee (f := 48) rfl ?_); refine goesM (some 53) rfl rfl Try.func48 (by kernel_rfl) rfl #[.agg #[.int .i64 a0_0, .bool a0_1, .int .i64 a0_2, .int .i64 a0_3, .int .i64 a0_4, .int .i64 a0_5]] rfl ?_; (with_reducible refine (impl_Bare.calls a0_0 a0_1 a0_2 a0_3 a0_4 a0_5 dT dU dV dW dX dY _ A40.out).mono ?_); rintro e i7 ⟨rfl, hb⟩; refine ⟨_, rfl, ?_⟩; replace ba := nblk ba hb; replace bb := nblk bb hb; replace HB := nbs HB hb; (try clear hb); obtain ⟨i8, i9, ja, jb, jc, jd⟩ := c6e bb; obtain ⟨je, jf, jg, jh, ji, jj⟩ := z6_ bb))
      refine bodyPost_ret (results_cell_row rfl _ _ bU 27 #[.int .i64 dT, .bool dU, .int .i64 dV, .int .i64 dW, .int .i64 dX, .int .i64 dY] (0, 0) _ rfl (q6 bb) Try.underlying27 rfl (by kernel_rfl)) rfl ?_; exact ⟨er_, nbe HB⟩
     ·rw [if_neg c39] at H
      have c39b0 : decide (a0_3 < bA) = false := decide_eq_false c39; clear c39; simp only [Option.some.injEq, Prod.mk.injEq] at H; obtain ⟨rfl, rfl, rfl, rfl, rfl, rfl⟩ := H; have jk := bH.out; have jl := bx.out; obtain ⟨jm, jn, jo, jp, jq, jr⟩ := c6e ba; obtain ⟨js, jt, ju, jv, jw, jx⟩ := z6_ ba
      go_wp2_with (first | ((with_reducible refine gate_callee (f := 66) rfl ?_); refine goesM (some 37) rfl rfl Try.func66 (by kernel_rfl) rfl #[.int .i64 a0_0, .int .i64 (wrap64 (a0_0 + a1))] rfl ?_; (with_reducible refine (impl_Wide.calls kj2 a0_0 (wrap64 (a0_0 + a1)) bz bA _ A30.out).mono ?_); rintro e jy ⟨rfl, hb⟩; refine ⟨_, rfl, ?_⟩; replace ba := nblk ba hb; replace bb := nblk bb hb; replace HB := nbs HB hb; (try clear hb); obtain ⟨jz, jA, jB, jC, jD, jE⟩ := c6e ba; obtain ⟨jF, jG, jH, jI, jJ, jK⟩ := z6_ ba; obtain ⟨jL, jM, jN, jO, jP, jQ⟩ := c6e bb; obtain ⟨jR, jS, jT, jU, jV, jW⟩ := z6_ bb))
      refine bodyPost_ret (results_cell_row rfl _ _ bU 27 #[.int .i64 a0_0, .bool a0_1, .int .i64 bz, .int .i64 bA, .int .i64 a0_4, .int .i64 a0_5] (0, 0) _ rfl (p6 bb (k2_ bx.out (nb bb))) Try.underlying27 rfl (by kernel_rfl)) rfl ?_; exact ⟨er_, nbe HB⟩

/-! ### spec_DrawPoint: function 14 -/
def spec_DrawPoint.f (k : Nat) (l0 : List Int) : Option (Int × Bool × Int × Int × Int × Int × Int) := (spec_l4Draw.f k l0).bind fun bn => (some (bn.1, bn.2.1, bn.2.2.1, bn.2.2.2.1, bn.2.2.2.2.1, bn.2.2.2.2.2.1, bn.2.2.2.2.2.2))
theorem spec_DrawPoint.mono : ∀ a0 k, LeO (spec_DrawPoint.f k a0) (spec_DrawPoint.f (k + 1) a0) := by
 intro a0 k
 unfold spec_DrawPoint.f
 repeat' first
   | (with_reducible exact spec_l4Draw.mono _ _)
   | (with_reducible exact LeO.refl _)
   | (with_reducible exact LeO.none _)
   | (with_reducible refine LeO.ite ?_ ?_)
   | (with_reducible refine LeO.bind ?_ (fun _ => ?_))
   | exact spec_l4Draw.mono _ _
   | exact LeO.none _
   | refine LeO.ite ?_ ?_
   | refine LeO.bind ?_ (fun _ => ?_)
set_option maxHeartbeats 8000000 in
set_option maxRecDepth 100000 in
theorem spec_DrawPoint.calls (k : Nat) (A0 : Option Addr) (c0 : Nat) (l0 : List Int) (r1 : Int) (r2 : Bool) (r3 : Int) (r4 : Int) (r5 : Int) (r6 : Int) (r7 : Int) (w : World) (hr0 : Kd.C (Kd.int .u8) w A0 l0.length l0) (hc0 : l0.length ≤ c0) (h : spec_DrawPoint.f k l0 = some (r1, r2, r3, r4, r5, r6, r7)) :
  Calls Try.prog 14 #[.slice A0 l0.length c0] w fun e w' => e = .returned (.tuple #[.agg #[.int .i64 r1, .bool r2, .int .i64 r3, .int .i64 r4, .int .i64 r5, .int .i64 r6], .int .i64 r7]) ∧ Below w.heap.size w w' := by
 have hu27 := Try.underlying27; have gs := Aside0.mk hr0; have gt := Aside0.mk hc0; clear hr0 hc0; have HB := Aside0.mk (Below.refl w.heap.size w); have H : ((spec_l4Draw.f k l0).bind fun bn => (some (bn.1, bn.2.1, bn.2.2.1, bn.2.2.2.1, bn.2.2.2.2.1, bn.2.2.2.2.2.1, bn.2.2.2.2.2.2))) = some (r1, r2, r3, r4, r5, r6, r7) := h; clear h; replace H := Option.bind_eq_some_iff.mp H; obtain ⟨⟨dZ, d0, d1, d2, d3, d4, e0⟩, A20, H⟩ := H; replace H : (some (dZ, d0, d1, d2, d3, d4, e0)) = some (r1, r2, r3, r4, r5, r6, r7) := H; have A2 := Aside0.mk A20; clear A20; simp only [Option.some.injEq, Prod.mk.injEq] at H; obtain ⟨rfl, rfl, rfl, rfl, rfl, rfl, rfl⟩ := H
 go_enter Try.func14, Try.ntmps14
 go_wp2_with (first | ((with_reducible refine gate_dst (N := 2) rfl ?_); refine bxe 2 #[.int .i64 0, .bool false, .int .i64 0, .int .i64 0, .int .i64 0, .int .i64 0] 27 ?_; intro gu hg w3 hbox hb; have bv := hbox; have jX := nge HB hg; have jY := nge HB hg; replace HB := nbs HB hb; clear hb hbox hg) | ((with_reducible refine gate_callee (f := 63) rfl ?_); refine goesM (some 8) rfl rfl Try.func63 (by kernel_rfl) rfl #[.slice A0 l0.length c0] rfl ?_; (with_reducible refine (spec_l4Draw.calls k _ _ l0 dZ d0 d1 d2 d3 d4 e0 _ ?side1 ?side2 A2.out).mono ?_); (case side1 => exact nCb gs HB); (case side2 => exact gt.out); rintro e w4 ⟨rfl, hb⟩; refine ⟨_, rfl, ?_⟩; replace bv := nblk bv hb; replace HB := nbs HB hb; (try clear hb)) | ((with_reducible refine gate_dst (N := 4) rfl ?_); refine bxe 4 #[.int .i64 0, .bool false, .int .i64 0, .int .i64 0, .int .i64 0, .int .i64 0] 27 ?_; intro jZ hg w5 hbox hb; have e1 := hbox; have j1 := nge HB hg; have j2 := nge HB hg; have e2 := nlt bv hg; have gv := ngt bv hg; replace bv := nblk bv hb; replace HB := nbs HB hb; clear hb hbox hg; have j3 := gv.out; have j4 := e2.out; obtain ⟨j5, j6, j7, j8, j9, ka⟩ := c6e e1; obtain ⟨kb, kc, kd, ke, kf, kg⟩ := z6_ e1; obtain ⟨b2, b3, b4, b5, b6, b7⟩ := c6e bv; obtain ⟨b8, b9, da, db, dc, dd⟩ := z6_ bv))
 refine bodyPost_ret (results_ct rfl _ _ gu 27 #[.int .i64 dZ, .bool d0, .int .i64 d1, .int .i64 d2, .int .i64 d3, .int .i64 d4] (0, 0) _ rfl (p6 bv (k6_ e2.out (nb bv))) Try.underlying27 rfl (by kernel_rfl)) rfl ?_; exact ⟨er_, nbe HB⟩

/-! ### impl_Point: function 15 -/
def impl_Point.f (k : Nat) (a0_0 : Int) (a0_1 : Bool) (a0_2 : Int) (a0_3 : Int) (a0_4 : Int) (a0_5 : Int) (a1 : Int) : Option (Int × Bool × Int × Int × Int × Int) := (impl_Plain.f a1).bind fun bo => ((impl_open.f k a0_0 a0_1 a0_2 a0_3 a0_4 a0_5).bind fun bI => (if bI = true then (some (bo.1, true, a0_2, a0_3, a0_4, a0_5)) else (some (bo.1, bo.2.1, bo.2.2.1, bo.2.2.2.1, bo.2.2.2.2.1, bo.2.2.2.2.2))))
theorem impl_Point.mono : ∀ a0 a1 a2 a3 a4 a5 a6 k, LeO (impl_Point.f k a0 a1 a2 a3 a4 a5 a6) (impl_Point.f (k + 1) a0 a1 a2 a3 a4 a5 a6) := by
 intro a0 a1 a2 a3 a4 a5 a6 k
 unfold impl_Point.f
 repeat' first
   | (with_reducible exact impl_open.mono _ _ _ _ _ _ _)
   | (with_reducible exact LeO.refl _)
   | (with_reducible exact LeO.none _)
   | (with_reducible refine LeO.ite ?_ ?_)
   | (with_reducible refine LeO.bind ?_ (fun _ => ?_))
   | exact impl_open.mono _ _ _ _ _ _ _
   | exact LeO.none _
   | refine LeO.ite ?_ ?_
   | refine LeO.bind ?_ (fun _ => ?_)
set_option maxHeartbeats 8000000 in
set_option maxRecDepth 100000 in
theorem impl_Point.calls (k : Nat) (a0_0 : Int) (a0_1 : Bool) (a0_2 : Int) (a0_3 : Int) (a0_4 : Int) (a0_5 : Int) (a1 : Int) (r1 : Int) (r2 : Bool) (r3 : Int) (r4 : Int) (r5 : Int) (r6 : Int) (w : World) (h : impl_Point.f k a0_0 a0_1 a0_2 a0_3 a0_4 a0_5 a1 = some (r1, r2, r3, r4, r5, r6)) :
  Calls Try.prog 15 #[.agg #[.int .i64 a0_0, .bool a0_1, .int .i64 a0_2, .int .i64 a0_3, .int .i64 a0_4, .int .i64 a0_5], .int .i64 a1] w fun e w' => e = .returned (.agg #[.int .i64 r1, .bool r2, .int .i64 r3, .int .i64 r4, .int .i64 r5, .int .i64 r6]) ∧ Below w.heap.size w w' := by
 have hu27 := Try.underlying27; have hu25 := Try.underlying25; have HB := Aside0.mk (Below.refl w.heap.size w); have H : ((impl_Plain.f a1).bind fun bo => ((impl_open.f k a0_0 a0_1 a0_2 a0_3 a0_4 a0_5).bind fun bI => (if bI = true then (some (bo.1, true, a0_2, a0_3, a0_4, a0_5)) else (some (bo.1, bo.2.1, bo.2.2.1, bo.2.2.2.1, bo.2.2.2.2.1, bo.2.2.2.2.2))))) = some (r1, r2, r3, r4, r5, r6) := h; clear h; replace H := Option.bind_eq_some_iff.mp H; obtain ⟨⟨bs, bB, bC, bD, bE, bF⟩, A30, H⟩ := H; replace H : ((impl_open.f k a0_0 a0_1 a0_2 a0_3 a0_4 a0_5).bind fun bI => (if bI = true then (some (bs, true, a0_2, a0_3, a0_4, a0_5)) else (some (bs, bB, bC, bD, bE, bF)))) = some (r1, r2, r3, r4, r5, r6) := H; have A3 := Aside0.mk A30; clear A30; replace H := Option.bind_eq_some_iff.mp H; obtain ⟨bI, A40, H⟩ := H; replace H : (if bI = true then (some (bs, true, a0_2, a0_3, a0_4, a0_5)) else (some (bs, bB, bC, bD, bE, bF))) = some (r1, r2, r3, r4, r5, r6) := H; have A4 := Aside0.mk A40; clear A40
 by_cases c5 : bI = true
 ·subst c5
  have H1 : (some (bs, true, a0_2, a0_3, a0_4, a0_5)) = some (r1, r2, r3, r4, r5, r6) := by rw [if_pos rfl] at H; exact H
  clear H; have H := H1; clear H1; simp only [Option.some.injEq, Prod.mk.injEq] at H; obtain ⟨rfl, rfl, rfl, rfl, rfl, rfl⟩ := H
  go_enter Try.func15, Try.ntmps15
  try go_wp2_with (first | ((with_reducible refine gate_dst (N := 2) rfl ?_); refine bxe 2 #[.int .i64 a0_0, .bool a0_1, .int .i64 a0_2, .int .i64 a0_3, .int .i64 a0_4, .int .i64 a0_5] 27 ?_; intro bN hg w6 hbox hb; have bc := hbox; have gw := nge HB hg; have gx := nge HB hg; replace HB := nbs HB hb; clear hb hbox hg) | ((with_reducible refine gate_dst (N := 4) rfl ?_); refine bxe 4 #[.int .i64 0, .bool false, .int .i64 0, .int .i64 0, .int .i64 0, .int .i64 0] 27 ?_; intro d5 hg w7 hbox hb; have bd := hbox; have gy := nge HB hg; have gz := nge HB hg; have d6 := nlt bc hg; have d7 := ngt bc hg; replace bc := nblk bc hb; replace HB := nbs HB hb; clear hb hbox hg) | ((with_reducible refine gate_callee (f := 44) rfl ?_); refine goesM (some 7) rfl rfl Try.func44 (by kernel_rfl) rfl #[.int .i64 a1] rfl ?_; (with_reducible refine (impl_Plain.calls a1 bs bB bC bD bE bF _ A3.out).mono ?_); rintro e w8 ⟨rfl, hb⟩; refine ⟨_, rfl, ?_⟩; replace bc := nblk bc hb; replace bd := nblk bd hb; replace HB := nbs HB hb; (try clear hb)) | ((with_reducible refine gate_dst (N := 5) rfl ?_); refine bxe 5 #[.int .i64 0, .bool false, .int .i64 0, .int .i64 0, .int .i64 0, .int .i64 0] 27 ?_; intro bJ hg w9 hbox hb; have bg := hbox; have gA := nge HB hg; have gB := nge HB hg; have bk := nlt bc hg; have bK := ngt bc hg; have bG := nlt bd hg; have bL := ngt bd hg; replace bc := nblk bc hb; replace bd := nblk bd hb; replace HB := nbs HB hb; clear hb hbox hg; have kh := bK.out; have ki := bk.out; have kj := bL.out; have kk := bG.out; obtain ⟨gC, gD, gE, gF, gG, gH⟩ := c6e bg; obtain ⟨gI, gJ, gK, gL, gM, gN⟩ := z6_ bg; have ga := d6.out; have gb := d7.out; obtain ⟨du, dv, dw, dx, dy, dz⟩ := c6e bc; obtain ⟨dA, dB, dC, dD, dE, dF⟩ := z6_ bc) | ((with_reducible refine gate_callee (f := 64) rfl ?_); refine goesM (some 9) rfl rfl Try.func64 (by kernel_rfl) rfl #[.agg #[.int .i64 a0_0, .bool a0_1, .int .i64 a0_2, .int .i64 a0_3, .int .i64 a0_4, .int .i64 a0_5]] rfl ?_; (with_reducible refine (impl_open.calls k a0_0 a0_1 a0_2 a0_3 a0_4 a0_5 true _ A4.out).mono ?_); rintro e dG ⟨rfl, hb⟩; refine ⟨_, rfl, ?_⟩; replace bc := nblk bc hb; replace bd := nblk bd hb; replace bg := Aside0.mk (blk_below (g := bJ) (o := .cells #[.int .i64 bs, .bool bB, .int .i64 bC, .int .i64 bD, .int .i64 bE, .int .i64 bF] 27 (0, 0)) (q6 bg) hb); replace HB := nbs HB hb; (try clear hb)))
  replace bc := Aside0.mk (blk_drew bc.out); replace bd := Aside0.mk (blk_drew bd.out); replace bg := Aside0.mk (blk_drew bg.out); replace HB := Aside0.mk (below_drew1 HB.out); refine start_ (n := 6) (S := fun w' => w'.cell? ⟨bN, 0, none⟩ = some (.int .i64 a0_0) ∧ w'.cell? ⟨bN, 1, none⟩ = some (.bool a0_1) ∧ w'.cell? ⟨bN, 2, none⟩ = some (.int .i64 a0_2) ∧ w'.cell? ⟨bN, 3, none⟩ = some (.int .i64 a0_3) ∧ w'.cell? ⟨bN, 4, none⟩ = some (.int .i64 a0_4) ∧ w'.cell? ⟨bN, 5, none⟩ = some (.int .i64 a0_5)) (ds := []) #[false, false, false, false, false, false] (by kernel_rfl) rfl rfl (c6e bc) (fun hHeld => ?_); generalize dG.drew = bQ at bc bd bg HB hHeld ⊢; refine rPk 0 10 #[true, false, false, false, false, false] ?_; refine rPk 2 12 #[true, false, true, false, false, false] ?_; refine rTk hHeld 1 11 #[true, true, true, false, false, false] ?_; refine one_ (i := 3) (N := none) #[true, true, true, true, false, false] rfl rfl (by kernel_rfl) (by decide) (fun K hK => ?_); have hs17 : bQ.cell? ⟨bJ, 1, none⟩ = some (.bool bB) := (blk_cell bg.out 1).trans rfl; have hfs17 := blk_frozen bg.out 1; have hns17_0 := bk.out; have hns17_1 := bG.out; have hms17_0 := bK.out; have hms17_1 := bL.out; refine skip_ (w1 := ?_) (by rfl) rfl ?_ ?_; rotate_left
  ·go_simp
   rfl
  refine hK.out _ _ ⟨(g1 bk.out hHeld.1), (g1 bk.out hHeld.2.1), (g1 bk.out hHeld.2.2.1), (g1 bk.out hHeld.2.2.2.1), (g1 bk.out hHeld.2.2.2.2.1), (g1 bk.out hHeld.2.2.2.2.2)⟩ (fun hHeld => ?_); clear hK K; refine rPk 4 13 #[true, true, true, true, true, false] ?_; refine one_ (i := 5) (N := none) #[true, true, true, true, true, true] rfl rfl (by kernel_rfl) (by decide) (fun K hK => ?_); have hs18 : bQ.cell? ⟨bJ, 2, none⟩ = some (.int .i64 bC) := (blk_cell bg.out 2).trans rfl; have hfs18 := blk_frozen bg.out 2; have hns18_0 := bk.out; have hns18_1 := bG.out; have hms18_0 := bK.out; have hms18_1 := bL.out; have hs19 : bQ.cell? ⟨bJ, 3, none⟩ = some (.int .i64 bD) := (blk_cell bg.out 3).trans rfl; have hfs19 := blk_frozen bg.out 3; have hns19_0 := bk.out; have hns19_1 := bG.out; have hms19_0 := bK.out; have hms19_1 := bL.out; have hs20 : bQ.cell? ⟨bJ, 4, none⟩ = some (.int .i64 bE) := (blk_cell bg.out 4).trans rfl; have hfs20 := blk_frozen bg.out 4; have hns20_0 := bk.out; have hns20_1 := bG.out; have hms20_0 := bK.out; have hms20_1 := bL.out; have hs21 : bQ.cell? ⟨bJ, 5, none⟩ = some (.int .i64 bF) := (blk_cell bg.out 5).trans rfl; have hfs21 := blk_frozen bg.out 5; have hns21_0 := bk.out; have hns21_1 := bG.out; have hms21_0 := bK.out; have hms21_1 := bL.out; refine skip_ (w1 := ?_) (by rfl) rfl ?_ ?_; rotate_left
  ·go_simp
   rfl
  refine hK.out _ _ ⟨(g4 bk.out hHeld.1), (g4 bk.out hHeld.2.1), (g4 bk.out hHeld.2.2.1), (g4 bk.out hHeld.2.2.2.1), (g4 bk.out hHeld.2.2.2.2.1), (g4 bk.out hHeld.2.2.2.2.2)⟩ (fun hHeld => ?_); clear hK K; refine done_ (by kernel_rfl) ?_; obtain ⟨eO, eP, eQ, eR, eS, eT⟩ := c6e bg; obtain ⟨eU, eV, eW, eX, eY, eZ⟩ := z6_ bg; obtain ⟨kl, km, kn, ko, kp, kr⟩ := c6e bd; obtain ⟨ks, kt, ku, kv, kw, kx⟩ := z6_ bd
  try go_wp2
  refine bodyPost_ret (results_cell_row rfl _ _ d5 27 #[.int .i64 bs, .bool true, .int .i64 a0_2, .int .i64 a0_3, .int .i64 a0_4, .int .i64 a0_5] (0, 0) _ rfl (p6 bd (k5_ bG.out (nb bd))) Try.underlying27 rfl (by kernel_rfl)) rfl ?_; exact ⟨er_, nbe HB⟩
 ·replace c5 := Bool.eq_false_iff.mpr c5
  subst c5; have H1 : (some (bs, bB, bC, bD, bE, bF)) = some (r1, r2, r3, r4, r5, r6) := by rw [if_neg (show ¬ (false = true) by decide)] at H; exact H
  clear H; have H := H1; clear H1; simp only [Option.some.injEq, Prod.mk.injEq] at H; obtain ⟨rfl, rfl, rfl, rfl, rfl, rfl⟩ := H
  go_enter Try.func15, Try.ntmps15
  go_wp2_with (first | ((with_reducible refine gate_dst (N := 2) rfl ?_); refine bxe 2 #[.int .i64 a0_0, .bool a0_1, .int .i64 a0_2, .int .i64 a0_3, .int .i64 a0_4, .int .i64 a0_5] 27 ?_; intro bN hg ky hbox hb; have bc := hbox; have gw := nge HB hg; have gx := nge HB hg; replace HB := nbs HB hb; clear hb hbox hg) | ((with_reducible refine gate_dst (N := 4) rfl ?_); refine bxe 4 #[.int .i64 0, .bool false, .int .i64 0, .int .i64 0, .int .i64 0, .int .i64 0] 27 ?_; intro d5 hg kz hbox hb; have bd := hbox; have gy := nge HB hg; have gz := nge HB hg; have d6 := nlt bc hg; have d7 := ngt bc hg; replace bc := nblk bc hb; replace HB := nbs HB hb; clear hb hbox hg) | ((with_reducible refine gate_callee (f := 44) rfl ?_); refine goesM (some 7) rfl rfl Try.func44 (by kernel_rfl) rfl #[.int .i64 a1] rfl ?_; (with_reducible refine (impl_Plain.calls a1 bs bB bC bD bE bF _ A3.out).mono ?_); rintro e kA ⟨rfl, hb⟩; refine ⟨_, rfl, ?_⟩; replace bc := nblk bc hb; replace bd := nblk bd hb; replace HB := nbs HB hb; (try clear hb)) | ((with_reducible refine gate_dst (N := 5) rfl ?_); refine bxe 5 #[.int .i64 0, .bool false, .int .i64 0, .int .i64 0, .int .i64 0, .int .i64 0] 27 ?_; intro bJ hg kB hbox hb; have bg := hbox; have gA := nge HB hg; have gB := nge HB hg; have bk := nlt bc hg; have bK := ngt bc hg; have bG := nlt bd hg; have bL := ngt bd hg; replace bc := nblk bc hb; replace bd := nblk bd hb; replace HB := nbs HB hb; clear hb hbox hg; have kC := bK.out; have kD := bk.out; have kE := bL.out; have kF := bG.out; obtain ⟨kG, kH, kI, kJ, kK, kL⟩ := c6e bg; obtain ⟨kM, kN, kO, kP, kQ, kR⟩ := z6_ bg; have kS := d6.out; have kT := d7.out; obtain ⟨kU, kV, kW, kX, kY, kZ⟩ := c6e bc; obtain ⟨k0, k1, k2, k3, k4, k5⟩ := z6_ bc) | ((with_reducible refine gate_callee (f := 64) rfl ?_); refine goesM (some 9) rfl rfl Try.func64 (by kernel_rfl) rfl #[.agg #[.int .i64 a0_0, .bool a0_1, .int .i64 a0_2, .int .i64 a0_3, .int .i64 a0_4, .int .i64 a0_5]] rfl ?_; (with_reducible refine (impl_open.calls k a0_0 a0_1 a0_2 a0_3 a0_4 a0_5 false _ A4.out).mono ?_); rintro e k6 ⟨rfl, hb⟩; refine ⟨_, rfl, ?_⟩; replace bc := nblk bc hb; replace bd := nblk bd hb; replace bg := Aside0.mk (blk_below (g := bJ) (o := .cells #[.int .i64 bs, .bool bB, .int .i64 bC, .int .i64 bD, .int .i64 bE, .int .i64 bF] 27 (0, 0)) (q6 bg) hb); replace HB := nbs HB hb; (try clear hb); obtain ⟨gd, gf, gg, gh, gi, gj⟩ := c6e bg; obtain ⟨gl, gm, gn, gp, gq, gr⟩ := z6_ bg; obtain ⟨k7, k8, k9, ma, mb, mc⟩ := c6e bd; obtain ⟨md, mf, mg, mh, mi, mj⟩ := z6_ bd))
  refine bodyPost_ret (results_cell_row rfl _ _ d5 27 #[.int .i64 bs, .bool bB, .int .i64 bC, .int .i64 bD, .int .i64 bE, .int .i64 bF] (0, 0) _ rfl (q6 bd) Try.underlying27 rfl (by kernel_rfl)) rfl ?_; exact ⟨er_, nbe HB⟩

/-! ### spec_Bare: function 49 -/
def spec_Bare.f (a0_0 : Int) (a0_1 : Bool) (a0_2 : Int) (a0_3 : Int) (a0_4 : Int) (a0_5 : Int) : Option (Int × Bool × Int × Int × Int × Int) := (spec_Plain.f a0_0).bind fun br => (some (br.1, br.2.1, br.2.2.1, br.2.2.2.1, br.2.2.2.2.1, br.2.2.2.2.2))
set_option maxHeartbeats 8000000 in
set_option maxRecDepth 100000 in
theorem spec_Bare.calls (a0_0 : Int) (a0_1 : Bool) (a0_2 : Int) (a0_3 : Int) (a0_4 : Int) (a0_5 : Int) (r1 : Int) (r2 : Bool) (r3 : Int) (r4 : Int) (r5 : Int) (r6 : Int) (w : World) (h : spec_Bare.f a0_0 a0_1 a0_2 a0_3 a0_4 a0_5 = some (r1, r2, r3, r4, r5, r6)) :
  Calls Try.prog 49 #[.agg #[.int .i64 a0_0, .bool a0_1, .int .i64 a0_2, .int .i64 a0_3, .int .i64 a0_4, .int .i64 a0_5]] w fun e w' => e = .returned (.agg #[.int .i64 r1, .bool r2, .int .i64 r3, .int .i64 r4, .int .i64 r5, .int .i64 r6]) ∧ Below w.heap.size w w' := by
 have hu27 := Try.underlying27; have HB := Aside0.mk (Below.refl w.heap.size w); have H : ((spec_Plain.f a0_0).bind fun br => (some (br.1, br.2.1, br.2.2.1, br.2.2.2.1, br.2.2.2.2.1, br.2.2.2.2.2))) = some (r1, r2, r3, r4, r5, r6) := h; clear h; replace H := Option.bind_eq_some_iff.mp H; obtain ⟨⟨d8, d9, ea, eb, ec, ed⟩, A20, H⟩ := H; replace H : (some (d8, d9, ea, eb, ec, ed)) = some (r1, r2, r3, r4, r5, r6) := H; have A2 := Aside0.mk A20; clear A20; simp only [Option.some.injEq, Prod.mk.injEq] at H; obtain ⟨rfl, rfl, rfl, rfl, rfl, rfl⟩ := H
 go_enter Try.func49, Try.ntmps49
 go_wp2_with (first | ((with_reducible refine gate_dst (N := 1) rfl ?_); refine bxe 1 #[.int .i64 a0_0, .bool a0_1, .int .i64 a0_2, .int .i64 a0_3, .int .i64 a0_4, .int .i64 a0_5] 27 ?_; intro ml hg w3 hbox hb; have bM := hbox; have mm := nge HB hg; have mn := nge HB hg; replace HB := nbs HB hb; clear hb hbox hg) | ((with_reducible refine gate_dst (N := 2) rfl ?_); refine bxe 2 #[.int .i64 0, .bool false, .int .i64 0, .int .i64 0, .int .i64 0, .int .i64 0] 27 ?_; intro gO hg w4 hbox hb; have bV := hbox; have mo := nge HB hg; have mq := nge HB hg; have gP := nlt bM hg; have gQ := ngt bM hg; replace bM := nblk bM hb; replace HB := nbs HB hb; clear hb hbox hg; have mr := gP.out; have ms := gQ.out; obtain ⟨gR, gS, gT, gU, gV, gW⟩ := c6e bM; obtain ⟨gX, gY, gZ, g0, g2, g3⟩ := z6_ bM) | ((with_reducible refine gate_callee (f := 45) rfl ?_); refine goesM (some 5) rfl rfl Try.func45 (by kernel_rfl) rfl #[.int .i64 a0_0] rfl ?_; (with_reducible refine (spec_Plain.calls a0_0 d8 d9 ea eb ec ed _ A2.out).mono ?_); rintro e w7 ⟨rfl, hb⟩; refine ⟨_, rfl, ?_⟩; replace bM := nblk bM hb; replace bV := nblk bV hb; replace HB := nbs HB hb; (try clear hb); obtain ⟨b2, b3, b4, b5, b6, b7⟩ := c6e bV; obtain ⟨b8, b9, da, db, dc, dd⟩ := z6_ bV))
 refine bodyPost_ret (results_cell_row rfl _ _ gO 27 #[.int .i64 d8, .bool d9, .int .i64 ea, .int .i64 eb, .int .i64 ec, .int .i64 ed] (0, 0) _ rfl (q6 bV) Try.underlying27 rfl (by kernel_rfl)) rfl ?_; exact ⟨er_, nbe HB⟩

/-! ### spec_WordOk: function 43 -/
def spec_WordOk.f (k : Nat) (a0_0 : Int) (a0_1 : Bool) (a0_2 : Int) (a0_3 : Int) (a0_4 : Int) (a0_5 : Int) : Option (Bool) := (spec_l1In.f a0_0 0 65535).bind fun bR => (if bR = true then (if a0_1 = true then ((spec_KeyOk.f k a0_2 a0_3 a0_4 a0_5).bind fun bt => (if bt = true then (some true) else (some false))) else (some (a0_2 == 0 && (a0_3 == 0 && (a0_4 == 0 && (a0_5 == 0)))))) else (some false))
theorem spec_WordOk.mono : ∀ a0 a1 a2 a3 a4 a5 k, LeO (spec_WordOk.f k a0 a1 a2 a3 a4 a5) (spec_WordOk.f (k + 1) a0 a1 a2 a3 a4 a5) := by
 intro a0 a1 a2 a3 a4 a5 k
 unfold spec_WordOk.f
 repeat' first
   | (with_reducible exact spec_KeyOk.mono _ _ _ _ _)
   | (with_reducible exact LeO.refl _)
   | (with_reducible exact LeO.none _)
   | (with_reducible refine LeO.ite ?_ ?_)
   | (with_reducible refine LeO.bind ?_ (fun _ => ?_))
   | exact spec_KeyOk.mono _ _ _ _ _
   | exact LeO.none _
   | refine LeO.ite ?_ ?_
   | refine LeO.bind ?_ (fun _ => ?_)
set_option maxHeartbeats 8000000 in
set_option maxRecDepth 100000 in
theorem spec_WordOk.calls (k : Nat) (a0_0 : Int) (a0_1 : Bool) (a0_2 : Int) (a0_3 : Int) (a0_4 : Int) (a0_5 : Int) (r : Bool) (w : World) (h : spec_WordOk.f k a0_0 a0_1 a0_2 a0_3 a0_4 a0_5 = some r) :
  Calls Try.prog 43 #[.agg #[.int .i64 a0_0, .bool a0_1, .int .i64 a0_2, .int .i64 a0_3, .int .i64 a0_4, .int .i64 a0_5]] w fun e w' => e = .returned (.bool r) ∧ Below w.heap.size w w' := by
 have hu27 := Try.underlying27; have hu25 := Try.underlying25; have HB := Aside0.mk (Below.refl w.heap.size w); have H : ((spec_l1In.f a0_0 0 65535).bind fun bR => (if bR = true then (if a0_1 = true then ((spec_KeyOk.f k a0_2 a0_3 a0_4 a0_5).bind fun bt => (if bt = true then (some true) else (some false))) else (some (a0_2 == 0 && (a0_3 == 0 && (a0_4 == 0 && (a0_5 == 0)))))) else (some false))) = some r := h; clear h; replace H := Option.bind_eq_some_iff.mp H; obtain ⟨bR, A20, H⟩ := H; replace H : (if bR = true then (if a0_1 = true then ((spec_KeyOk.f k a0_2 a0_3 a0_4 a0_5).bind fun bt => (if bt = true then (some true) else (some false))) else (some (a0_2 == 0 && (a0_3 == 0 && (a0_4 == 0 && (a0_5 == 0)))))) else (some false)) = some r := H; have A2 := Aside0.mk A20; clear A20
 by_cases c3 : bR = true
 ·subst c3
  have H1 : (if a0_1 = true then ((spec_KeyOk.f k a0_2 a0_3 a0_4 a0_5).bind fun bt => (if bt = true then (some true) else (some false))) else (some (a0_2 == 0 && (a0_3 == 0 && (a0_4 == 0 && (a0_5 == 0)))))) = some r := by rw [if_pos rfl] at H; exact H
  clear H; have H := H1; clear H1
  by_cases c4 : a0_1 = true
  ·subst c4
   have H1 : ((spec_KeyOk.f k a0_2 a0_3 a0_4 a0_5).bind fun bt => (if bt = true then (some true) else (some false))) = some r := by rw [if_pos rfl] at H; exact H
   clear H; have H := H1; clear H1; replace H := Option.bind_eq_some_iff.mp H; obtain ⟨bt, A50, H⟩ := H; replace H : (if bt = true then (some true) else (some false)) = some r := H; have A5 := Aside0.mk A50; clear A50
   by_cases c6 : bt = true
   ·subst c6
    have H1 : (some true) = some r := by rw [if_pos rfl] at H; exact H
    clear H; have H := H1; clear H1; obtain rfl := Option.some.inj H
    go_enter Try.func43, Try.ntmps43
    go_wp2_with (first | ((with_reducible refine gate_dst (N := 1) rfl ?_); refine bxe 1 #[.int .i64 a0_0, .bool true, .int .i64 a0_2, .int .i64 a0_3, .int .i64 a0_4, .int .i64 a0_5] 27 ?_; intro ee hg w7 hbox hb; have bm := hbox; have ef := nge HB hg; have eg := nge HB hg; replace HB := nbs HB hb; clear hb hbox hg; obtain ⟨b2, b3, b4, b5, b6, b7⟩ := c6e bm; obtain ⟨b8, b9, da, db, dc, dd⟩ := z6_ bm) | ((with_reducible refine gate_callee (f := 68) rfl ?_); refine goesM (some 5) rfl rfl Try.func68 (by kernel_rfl) rfl #[.int .i64 a0_0, .int .i64 0, .int .i64 65535] rfl ?_; (with_reducible refine (spec_l1In.calls a0_0 0 65535 true _ A2.out).mono ?_); rintro e w' ⟨rfl, ⟨nd, rfl⟩⟩; refine ⟨_, rfl, ?_⟩) | (go_at_call 35; (with_reducible refine (spec_KeyOk.calls k a0_2 a0_3 a0_4 a0_5 true _ A5.out).mono ?_); rintro e w9 ⟨rfl, hb⟩; replace bm := nblk bm hb; replace HB := nbs HB hb; (try clear hb)))
    go_ret
    exact ⟨er_, nbe HB⟩
   ·replace c6 := Bool.eq_false_iff.mpr c6
    subst c6; have H1 : (some false) = some r := by rw [if_neg (show ¬ (false = true) by decide)] at H; exact H
    clear H; have H := H1; clear H1; obtain rfl := Option.some.inj H
    go_enter Try.func43, Try.ntmps43
    go_wp2_with (first | ((with_reducible refine gate_dst (N := 1) rfl ?_); refine bxe 1 #[.int .i64 a0_0, .bool true, .int .i64 a0_2, .int .i64 a0_3, .int .i64 a0_4, .int .i64 a0_5] 27 ?_; intro ee hg mt hbox hb; have bm := hbox; have ef := nge HB hg; have eg := nge HB hg; replace HB := nbs HB hb; clear hb hbox hg; obtain ⟨g5, g6, g7, g8, g9, ha⟩ := c6e bm; obtain ⟨hc, hd, hf, hh, hj, hl⟩ := z6_ bm) | ((with_reducible refine gate_callee (f := 68) rfl ?_); refine goesM (some 5) rfl rfl Try.func68 (by kernel_rfl) rfl #[.int .i64 a0_0, .int .i64 0, .int .i64 65535] rfl ?_; (with_reducible refine (spec_l1In.calls a0_0 0 65535 true _ A2.out).mono ?_); rintro e w' ⟨rfl, ⟨nd, rfl⟩⟩; refine ⟨_, rfl, ?_⟩) | (go_at_call 35; (with_reducible refine (spec_KeyOk.calls k a0_2 a0_3 a0_4 a0_5 false _ A5.out).mono ?_); rintro e mu ⟨rfl, hb⟩; replace bm := nblk bm hb; replace HB := nbs HB hb; (try clear hb); obtain ⟨mv, mw, mx, mz, mA, mB⟩ := c6e bm; obtain ⟨mC, mD, mE, mF, mG, mH⟩ := z6_ bm))
    go_ret
    exact ⟨er_, nbe HB⟩
  ·replace c4 := Bool.eq_false_iff.mpr c4
   subst c4; have H1 : (some (a0_2 == 0 && (a0_3 == 0 && (a0_4 == 0 && (a0_5 == 0))))) = some r := by rw [if_neg (show ¬ (false = true) by decide)] at H; exact H
   clear H; have H := H1; clear H1; obtain rfl := Option.some.inj H
   go_enter Try.func43, Try.ntmps43
   go_wp2_with (first | ((with_reducible refine gate_dst (N := 1) rfl ?_); refine bxe 1 #[.int .i64 a0_0, .bool false, .int .i64 a0_2, .int .i64 a0_3, .int .i64 a0_4, .int .i64 a0_5] 27 ?_; intro ee hg hm hbox hb; have bm := hbox; have ef := nge HB hg; have eg := nge HB hg; replace HB := nbs HB hb; clear hb hbox hg; obtain ⟨mI, mJ, mK, mL, mM, mN⟩ := c6e bm; obtain ⟨mO, mP, mQ, mR, mS, mT⟩ := z6_ bm) | ((with_reducible refine gate_callee (f := 68) rfl ?_); refine goesM (some 5) rfl rfl Try.func68 (by kernel_rfl) rfl #[.int .i64 a0_0, .int .i64 0, .int .i64 65535] rfl ?_; (with_reducible refine (spec_l1In.calls a0_0 0 65535 true _ A2.out).mono ?_); rintro e w' ⟨rfl, ⟨nd, rfl⟩⟩; refine ⟨_, rfl, ?_⟩))
   go_ret
   exact ⟨er_, nbe HB⟩
 ·replace c3 := Bool.eq_false_iff.mpr c3
  subst c3; have H1 : (some false) = some r := by rw [if_neg (show ¬ (false = true) by decide)] at H; exact H
  clear H; have H := H1; clear H1; obtain rfl := Option.some.inj H
  go_enter Try.func43, Try.ntmps43
  go_wp2_with (first | ((with_reducible refine gate_dst (N := 1) rfl ?_); refine bxe 1 #[.int .i64 a0_0, .bool a0_1, .int .i64 a0_2, .int .i64 a0_3, .int .i64 a0_4, .int .i64 a0_5] 27 ?_; intro ee hg bQ hbox hb; have bm := hbox; have ef := nge HB hg; have eg := nge HB hg; replace HB := nbs HB hb; clear hb hbox hg; obtain ⟨mU, mV, mW, mX, mY, mZ⟩ := c6e bm; obtain ⟨m0, m1, m2, m3, m4, m5⟩ := z6_ bm) | ((with_reducible refine gate_callee (f := 68) rfl ?_); refine goesM (some 5) rfl rfl Try.func68 (by kernel_rfl) rfl #[.int .i64 a0_0, .int .i64 0, .int .i64 65535] rfl ?_; (with_reducible refine (spec_l1In.calls a0_0 0 65535 false _ A2.out).mono ?_); rintro e w' ⟨rfl, ⟨nd, rfl⟩⟩; refine ⟨_, rfl, ?_⟩))
  go_ret
  exact ⟨er_, nbe HB⟩

/-! ### spec_l4Open: function 67 -/
def spec_l4Open.f (k : Nat) (a0_0 : Int) (a0_1 : Bool) (a0_2 : Int) (a0_3 : Int) (a0_4 : Int) (a0_5 : Int) : Option (Bool) := (spec_WordOk.f k a0_0 a0_1 a0_2 a0_3 a0_4 a0_5).bind fun bS => (if bS = true then (if a0_1 = true then (some (a0_5 == 0)) else (some false)) else (some false))
theorem spec_l4Open.mono : ∀ a0 a1 a2 a3 a4 a5 k, LeO (spec_l4Open.f k a0 a1 a2 a3 a4 a5) (spec_l4Open.f (k + 1) a0 a1 a2 a3 a4 a5) := by
 intro a0 a1 a2 a3 a4 a5 k
 unfold spec_l4Open.f
 repeat' first
   | (with_reducible exact spec_WordOk.mono _ _ _ _ _ _ _)
   | (with_reducible exact LeO.refl _)
   | (with_reducible exact LeO.none _)
   | (with_reducible refine LeO.ite ?_ ?_)
   | (with_reducible refine LeO.bind ?_ (fun _ => ?_))
   | exact spec_WordOk.mono _ _ _ _ _ _ _
   | exact LeO.none _
   | refine LeO.ite ?_ ?_
   | refine LeO.bind ?_ (fun _ => ?_)
set_option maxHeartbeats 8000000 in
set_option maxRecDepth 100000 in
theorem spec_l4Open.calls (k : Nat) (a0_0 : Int) (a0_1 : Bool) (a0_2 : Int) (a0_3 : Int) (a0_4 : Int) (a0_5 : Int) (r : Bool) (w : World) (h : spec_l4Open.f k a0_0 a0_1 a0_2 a0_3 a0_4 a0_5 = some r) :
  Calls Try.prog 67 #[.agg #[.int .i64 a0_0, .bool a0_1, .int .i64 a0_2, .int .i64 a0_3, .int .i64 a0_4, .int .i64 a0_5]] w fun e w' => e = .returned (.bool r) ∧ Below w.heap.size w w' := by
 have hu27 := Try.underlying27; have HB := Aside0.mk (Below.refl w.heap.size w); have H : ((spec_WordOk.f k a0_0 a0_1 a0_2 a0_3 a0_4 a0_5).bind fun bS => (if bS = true then (if a0_1 = true then (some (a0_5 == 0)) else (some false)) else (some false))) = some r := h; clear h; replace H := Option.bind_eq_some_iff.mp H; obtain ⟨bS, A20, H⟩ := H; replace H : (if bS = true then (if a0_1 = true then (some (a0_5 == 0)) else (some false)) else (some false)) = some r := H; have A2 := Aside0.mk A20; clear A20
 by_cases c3 : bS = true
 ·subst c3
  have H1 : (if a0_1 = true then (some (a0_5 == 0)) else (some false)) = some r := by rw [if_pos rfl] at H; exact H
  clear H; have H := H1; clear H1
  by_cases c4 : a0_1 = true
  ·subst c4
   have H1 : (some (a0_5 == 0)) = some r := by rw [if_pos rfl] at H; exact H
   clear H; have H := H1; clear H1; obtain rfl := Option.some.inj H
   go_enter Try.func67, Try.ntmps67
   go_wp2_with (first | ((with_reducible refine gate_dst (N := 1) rfl ?_); refine bxe 1 #[.int .i64 a0_0, .bool true, .int .i64 a0_2, .int .i64 a0_3, .int .i64 a0_4, .int .i64 a0_5] 27 ?_; intro e3 hg w5 hbox hb; have bl := hbox; have e4 := nge HB hg; have e5 := nge HB hg; replace HB := nbs HB hb; clear hb hbox hg; obtain ⟨gR, gS, gT, gU, gV, gW⟩ := c6e bl; obtain ⟨gX, gY, gZ, g0, g2, g3⟩ := z6_ bl) | ((with_reducible refine gate_callee (f := 43) rfl ?_); refine goesM (some 4) rfl rfl Try.func43 (by kernel_rfl) rfl #[.agg #[.int .i64 a0_0, .bool true, .int .i64 a0_2, .int .i64 a0_3, .int .i64 a0_4, .int .i64 a0_5]] rfl ?_; (with_reducible refine (spec_WordOk.calls k a0_0 true a0_2 a0_3 a0_4 a0_5 true _ A2.out).mono ?_); rintro e w7 ⟨rfl, hb⟩; refine ⟨_, rfl, ?_⟩; replace bl := nblk bl hb; replace HB := nbs HB hb; (try clear hb); obtain ⟨b2, b3, b4, b5, b6, b7⟩ := c6e bl; obtain ⟨b8, b9, da, db, dc, dd⟩ := z6_ bl))
   go_ret
   exact ⟨er_, nbe HB⟩
  ·replace c4 := Bool.eq_false_iff.mpr c4
   subst c4; have H1 : (some false) = some r := by rw [if_neg (show ¬ (false = true) by decide)] at H; exact H
   clear H; have H := H1; clear H1; obtain rfl := Option.some.inj H
   go_enter Try.func67, Try.ntmps67
   go_wp2_with (first | ((with_reducible refine gate_dst (N := 1) rfl ?_); refine bxe 1 #[.int .i64 a0_0, .bool false, .int .i64 a0_2, .int .i64 a0_3, .int .i64 a0_4, .int .i64 a0_5] 27 ?_; intro e3 hg w9 hbox hb; have bl := hbox; have e4 := nge HB hg; have e5 := nge HB hg; replace HB := nbs HB hb; clear hb hbox hg; obtain ⟨dg, dh, di, dj, dk, dl⟩ := c6e bl; obtain ⟨dm, dn, dp, dq, dr, dt⟩ := z6_ bl) | ((with_reducible refine gate_callee (f := 43) rfl ?_); refine goesM (some 4) rfl rfl Try.func43 (by kernel_rfl) rfl #[.agg #[.int .i64 a0_0, .bool false, .int .i64 a0_2, .int .i64 a0_3, .int .i64 a0_4, .int .i64 a0_5]] rfl ?_; (with_reducible refine (spec_WordOk.calls k a0_0 false a0_2 a0_3 a0_4 a0_5 true _ A2.out).mono ?_); rintro e e9 ⟨rfl, hb⟩; refine ⟨_, rfl, ?_⟩; replace bl := nblk bl hb; replace HB := nbs HB hb; (try clear hb); obtain ⟨gC, gD, gE, gF, gG, gH⟩ := c6e bl; obtain ⟨gI, gJ, gK, gL, gM, gN⟩ := z6_ bl))
   go_ret
   exact ⟨er_, nbe HB⟩
 ·replace c3 := Bool.eq_false_iff.mpr c3
  subst c3; have H1 : (some false) = some r := by rw [if_neg (show ¬ (false = true) by decide)] at H; exact H
  clear H; have H := H1; clear H1; obtain rfl := Option.some.inj H
  go_enter Try.func67, Try.ntmps67
  go_wp2_with (first | ((with_reducible refine gate_dst (N := 1) rfl ?_); refine bxe 1 #[.int .i64 a0_0, .bool a0_1, .int .i64 a0_2, .int .i64 a0_3, .int .i64 a0_4, .int .i64 a0_5] 27 ?_; intro e3 hg hn hbox hb; have bl := hbox; have e4 := nge HB hg; have e5 := nge HB hg; replace HB := nbs HB hb; clear hb hbox hg; obtain ⟨du, dv, dw, dx, dy, dz⟩ := c6e bl; obtain ⟨dA, dB, dC, dD, dE, dF⟩ := z6_ bl) | ((with_reducible refine gate_callee (f := 43) rfl ?_); refine goesM (some 4) rfl rfl Try.func43 (by kernel_rfl) rfl #[.agg #[.int .i64 a0_0, .bool a0_1, .int .i64 a0_2, .int .i64 a0_3, .int .i64 a0_4, .int .i64 a0_5]] rfl ?_; (with_reducible refine (spec_WordOk.calls k a0_0 a0_1 a0_2 a0_3 a0_4 a0_5 false _ A2.out).mono ?_); rintro e dG ⟨rfl, hb⟩; refine ⟨_, rfl, ?_⟩; replace bl := nblk bl hb; replace HB := nbs HB hb; (try clear hb)))
  go_ret
  exact ⟨er_, nbe HB⟩

/-! ### spec_Weaken: function 16 -/
def spec_Weaken.f (k : Nat) (a0_0 : Int) (a0_1 : Bool) (a0_2 : Int) (a0_3 : Int) (a0_4 : Int) (a0_5 : Int) (a1 : Int) : Option (Int × Bool × Int × Int × Int × Int) := (spec_l4Open.f k a0_0 a0_1 a0_2 a0_3 a0_4 a0_5).bind fun bT => (if bT = true then (some (a0_0, a0_1, a0_2, a0_3, Go.bits .and .i64 a0_4 (Go.bits .and .i64 a1 63), a0_5)) else ((spec_Bare.f a0_0 a0_1 a0_2 a0_3 a0_4 a0_5).bind fun bf => (some (bf.1, bf.2.1, bf.2.2.1, bf.2.2.2.1, bf.2.2.2.2.1, bf.2.2.2.2.2))))
theorem spec_Weaken.mono : ∀ a0 a1 a2 a3 a4 a5 a6 k, LeO (spec_Weaken.f k a0 a1 a2 a3 a4 a5 a6) (spec_Weaken.f (k + 1) a0 a1 a2 a3 a4 a5 a6) := by
 intro a0 a1 a2 a3 a4 a5 a6 k
 unfold spec_Weaken.f
 repeat' first
   | (with_reducible exact spec_l4Open.mono _ _ _ _ _ _ _)
   | (with_reducible exact LeO.refl _)
   | (with_reducible exact LeO.none _)
   | (with_reducible refine LeO.ite ?_ ?_)
   | (with_reducible refine LeO.bind ?_ (fun _ => ?_))
   | exact spec_l4Open.mono _ _ _ _ _ _ _
   | exact LeO.none _
   | refine LeO.ite ?_ ?_
   | refine LeO.bind ?_ (fun _ => ?_)
set_option maxHeartbeats 8000000 in
set_option maxRecDepth 100000 in
theorem spec_Weaken.calls (k : Nat) (a0_0 : Int) (a0_1 : Bool) (a0_2 : Int) (a0_3 : Int) (a0_4 : Int) (a0_5 : Int) (a1 : Int) (r1 : Int) (r2 : Bool) (r3 : Int) (r4 : Int) (r5 : Int) (r6 : Int) (w : World) (h : spec_Weaken.f k a0_0 a0_1 a0_2 a0_3 a0_4 a0_5 a1 = some (r1, r2, r3, r4, r5, r6)) :
  Calls Try.prog 16 #[.agg #[.int .i64 a0_0, .bool a0_1, .int .i64 a0_2, .int .i64 a0_3, .int .i64 a0_4, .int .i64 a0_5], .int .i64 a1] w fun e w' => e = .returned (.agg #[.int .i64 r1, .bool r2, .int .i64 r3, .int .i64 r4, .int .i64 r5, .int .i64 r6]) ∧ Below w.heap.size w w' := by
 have hu27 := Try.underlying27; have HB := Aside0.mk (Below.refl w.heap.size w); have H : ((spec_l4Open.f k a0_0 a0_1 a0_2 a0_3 a0_4 a0_5).bind fun bT => (if bT = true then (some (a0_0, a0_1, a0_2, a0_3, Go.bits .and .i64 a0_4 (Go.bits .and .i64 a1 63), a0_5)) else ((spec_Bare.f a0_0 a0_1 a0_2 a0_3 a0_4 a0_5).bind fun bf => (some (bf.1, bf.2.1, bf.2.2.1, bf.2.2.2.1, bf.2.2.2.2.1, bf.2.2.2.2.2))))) = some (r1, r2, r3, r4, r5, r6) := h; clear h; replace H := Option.bind_eq_some_iff.mp H; obtain ⟨bT, A30, H⟩ := H; replace H : (if bT = true then (some (a0_0, a0_1, a0_2, a0_3, Go.bits .and .i64 a0_4 (Go.bits .and .i64 a1 63), a0_5)) else ((spec_Bare.f a0_0 a0_1 a0_2 a0_3 a0_4 a0_5).bind fun bf => (some (bf.1, bf.2.1, bf.2.2.1, bf.2.2.2.1, bf.2.2.2.2.1, bf.2.2.2.2.2)))) = some (r1, r2, r3, r4, r5, r6) := H; have A3 := Aside0.mk A30; clear A30
 by_cases c4 : bT = true
 ·subst c4
  have H1 : (some (a0_0, a0_1, a0_2, a0_3, Go.bits .and .i64 a0_4 (Go.bits .and .i64 a1 63), a0_5)) = some (r1, r2, r3, r4, r5, r6) := by rw [if_pos rfl] at H; exact H
  clear H; have H := H1; clear H1; simp only [Option.some.injEq, Prod.mk.injEq] at H; obtain ⟨rfl, rfl, rfl, rfl, rfl, rfl⟩ := H
  go_enter Try.func16, Try.ntmps16
  go_wp2_with (first | ((with_reducible refine gate_dst (N := 2) rfl ?_); refine bxe 2 #[.int .i64 a0_0, .bool a0_1, .int .i64 a0_2, .int .i64 a0_3, .int .i64 a0_4, .int .i64 a0_5] 27 ?_; intro ho hg w5 hbox hb; have bh := hbox; have hp := nge HB hg; have hq := nge HB hg; replace HB := nbs HB hb; clear hb hbox hg) | ((with_reducible refine gate_dst (N := 4) rfl ?_); refine bxe 4 #[.int .i64 0, .bool false, .int .i64 0, .int .i64 0, .int .i64 0, .int .i64 0] 27 ?_; intro eh hg w6 hbox hb; have bp := hbox; have hr := nge HB hg; have hs := nge HB hg; have ei := nlt bh hg; have de := ngt bh hg; replace bh := nblk bh hb; replace HB := nbs HB hb; clear hb hbox hg; have m6 := ei.out; have m7 := de.out; obtain ⟨b2, b3, b4, b5, b6, b7⟩ := c6e bh; obtain ⟨b8, b9, da, db, dc, dd⟩ := z6_ bh) | ((with_reducible refine gate_callee (f := 67) rfl ?_); refine goesM (some 6) rfl rfl Try.func67 (by kernel_rfl) rfl #[.agg #[.int .i64 a0_0, .bool a0_1, .int .i64 a0_2, .int .i64 a0_3, .int .i64 a0_4, .int .i64 a0_5]] rfl ?_; (with_reducible refine (spec_l4Open.calls k a0_0 a0_1 a0_2 a0_3 a0_4 a0_5 true _ A3.out).mono ?_); rintro e w9 ⟨rfl, hb⟩; refine ⟨_, rfl, ?_⟩; replace bh := nblk bh hb; replace bp := nblk bp hb; replace HB := nbs HB hb; (try clear hb); obtain ⟨dg, dh, di, dj, dk, dl⟩ := c6e bh; obtain ⟨dm, dn, dp, dq, dr, dt⟩ := z6_ bh; obtain ⟨g5, g6, g7, g8, g9, ha⟩ := c6e bp; obtain ⟨hc, hd, hf, hh, hj, hl⟩ := z6_ bp))
  refine bodyPost_ret (results_cell_row rfl _ _ eh 27 #[.int .i64 a0_0, .bool a0_1, .int .i64 a0_2, .int .i64 a0_3, .int .i64 (Go.bits .and .i64 a0_4 (Go.bits .and .i64 a1 63)), .int .i64 a0_5] (0, 0) _ rfl (p6 bp (k1_ de.out (nb bp))) Try.underlying27 rfl (by kernel_rfl)) rfl ?_; exact ⟨er_, nbe HB⟩
 ·replace c4 := Bool.eq_false_iff.mpr c4
  subst c4; have H1 : ((spec_Bare.f a0_0 a0_1 a0_2 a0_3 a0_4 a0_5).bind fun bf => (some (bf.1, bf.2.1, bf.2.2.1, bf.2.2.2.1, bf.2.2.2.2.1, bf.2.2.2.2.2))) = some (r1, r2, r3, r4, r5, r6) := by rw [if_neg (show ¬ (false = true) by decide)] at H; exact H
  clear H; have H := H1; clear H1; replace H := Option.bind_eq_some_iff.mp H; obtain ⟨⟨ej, ek, el, em, en, eo⟩, A120, H⟩ := H; replace H : (some (ej, ek, el, em, en, eo)) = some (r1, r2, r3, r4, r5, r6) := H; have A12 := Aside0.mk A120; clear A120; simp only [Option.some.injEq, Prod.mk.injEq] at H; obtain ⟨rfl, rfl, rfl, rfl, rfl, rfl⟩ := H
  go_enter Try.func16, Try.ntmps16
  go_wp2_with (first | ((with_reducible refine gate_dst (N := 2) rfl ?_); refine bxe 2 #[.int .i64 a0_0, .bool a0_1, .int .i64 a0_2, .int .i64 a0_3, .int .i64 a0_4, .int .i64 a0_5] 27 ?_; intro ho hg hn hbox hb; have bh := hbox; have hp := nge HB hg; have hq := nge HB hg; replace HB := nbs HB hb; clear hb hbox hg) | ((with_reducible refine gate_dst (N := 4) rfl ?_); refine bxe 4 #[.int .i64 0, .bool false, .int .i64 0, .int .i64 0, .int .i64 0, .int .i64 0] 27 ?_; intro eh hg hm hbox hb; have bp := hbox; have hr := nge HB hg; have hs := nge HB hg; have ei := nlt bh hg; have de := ngt bh hg; replace bh := nblk bh hb; replace HB := nbs HB hb; clear hb hbox hg; have m8 := ei.out; have m9 := de.out; obtain ⟨na, nc, nf, ng, nh, ni⟩ := c6e bh; obtain ⟨nj, nk, nl, nm, nn, np⟩ := z6_ bh) | ((with_reducible refine gate_callee (f := 67) rfl ?_); refine goesM (some 6) rfl rfl Try.func67 (by kernel_rfl) rfl #[.agg #[.int .i64 a0_0, .bool a0_1, .int .i64 a0_2, .int .i64 a0_3, .int .i64 a0_4, .int .i64 a0_5]] rfl ?_; (with_reducible refine (spec_l4Open.calls k a0_0 a0_1 a0_2 a0_3 a0_4 a0_5 false _ A3.out).mono ?_); rintro e nq ⟨rfl, hb⟩; refine ⟨_, rfl, ?_⟩; replace bh := nblk bh hb; replace bp := nblk bp hb; replace HB := nbs HB hb; (try clear hb); obtain ⟨ep, er, es, et, eu, ev⟩ := c6e bh; obtain ⟨ew, ex, ey, ez, eA, eB⟩ := z6_ bh) | ((with_reducible refine gate_callee (f := 49) rfl ?_); refine goesM (some 9) rfl rfl Try.func49 (by kernel_rfl) rfl #[.agg #[.int .i64 a0_0, .bool a0_1, .int .i64 a0_2, .int .i64 a0_3, .int .i64 a0_4, .int .i64 a0_5]] rfl ?_; (with_reducible refine (spec_Bare.calls a0_0 a0_1 a0_2 a0_3 a0_4 a0_5 ej ek el em en eo _ A12.out).mono ?_); rintro e gc ⟨rfl, hb⟩; refine ⟨_, rfl, ?_⟩; replace bh := nblk bh hb; replace bp := nblk bp hb; replace HB := nbs HB hb; (try clear hb); obtain ⟨eC, eD, eE, eF, eG, eH⟩ := c6e bp; obtain ⟨eI, eJ, eK, eL, eM, eN⟩ := z6_ bp))
  refine bodyPost_ret (results_cell_row rfl _ _ eh 27 #[.int .i64 ej, .bool ek, .int .i64 el, .int .i64 em, .int .i64 en, .int .i64 eo] (0, 0) _ rfl (q6 bp) Try.underlying27 rfl (by kernel_rfl)) rfl ?_; exact ⟨er_, nbe HB⟩

end Go.Proofs.Ytiliggbholjdjaa.PFnDerived
