/- A step, safely. -/
import Derived.Test.YtpcladboobfkhaaPFnWorkx45
namespace Go.Proofs.Ytpcladboobfkhaa.PFnWork
open Go.Proofs.Ytpcladboobfkhaa.Pure hiding stM
open Go.RowKit Go.Proofs.YtpcladboobfkhaaW.PrintWords Go.Proofs.YtpcladboobfkhaaW.PrintLast Go.Proofs.YtpcladboobfkhaaW.PrintMore Go.Proofs.YtpcladboobfkhaaW.Mine
attribute [local go_sem] dsc dhs dha ddr ddrN ddz ddc nn2 nn3 nn4 nn5 nn6 nn7 nn8 nn9
attribute [local go_sem] max2_int min2_int max_two min_two max_three min_three max_four min_four
set_option linter.unusedVariables false
set_option linter.unusedSimpArgs false
theorem dap {W : World} {gr cr gw cw gg cg : Nat} {xs ms : List S29} {bs : List Bool} {n : Int} {ib : Bool} {b t p s tr f0 f1 f2 : Int} {f3 : Bool} {f4 f5 f6 f7 f8 : Int} {f9 : Bool} {f10 f11 f12 f13 f14 f15 : Int} {f16 : Bool} {f17 f18 f19 f20 f21 : Int} {Q : Ending → World → Prop}
    (d1 : gr ≠ gw) (d2 : gr ≠ gg) (d3 : gw ≠ gg) (hst : Pure.stM xs n ib b t p s ms bs tr = true) (hv : wOk f2 f3 f4 f5 f6 f7 = true) (hn : wOk f8 f9 f10 f11 f12 f13 = true) (hp : wOk f15 f16 f17 f18 f19 f20 = true)
    (k : ∀ (xs' ms' : List S29) (bs' : List Bool) (w' : World), Aside0 (xs'.length = xs.length ∧ ms'.length = ms.length ∧ bs'.length = bs.length) → Aside0 (xs'.all wOkT = true ∧ ms'.all wOkT = true) → RG k29 29 w' gr cr xs' → RG k29 29 w' gw cw ms' → RG Kd.bool 4 w' gg cg bs' → W.heap.size ≤ w'.heap.size →
      ((∀ h j, h ≠ gr → h ≠ gw → h ≠ gg → h < W.heap.size → w'.cell? ⟨h, j, none⟩ = W.cell? ⟨h, j, none⟩) ∧ (∀ h j, h ≠ gr → h ≠ gw → h ≠ gg → h < W.heap.size → w'.frozen? ⟨h, j, none⟩ = W.frozen? ⟨h, j, none⟩)) → Aside0 (∀ w0 : World, w0.heap.size ≤ gr → w0.heap.size ≤ gw → w0.heap.size ≤ gg → Below w0.heap.size w0 W → Below w0.heap.size w0 w') →
      Q (.returned (.agg #[.slice (some ⟨gr, 0, none⟩) xs.length cr, .int .i64 f8, .bool f9, .int .i64 f10, .int .i64 f11, .int .i64 f12, .int .i64 f13, .slice (some ⟨gw, 0, none⟩) ms.length cw, .slice (some ⟨gg, 0, none⟩) bs.length cg, .int .i64 tr])) w')
    (hr : RG k29 29 W gr cr xs := by exact dRG) (hw : RG k29 29 W gw cw ms := by exact dRG) (hg : RG Kd.bool 4 W gg cg bs := by exact dRG) : Calls Try.prog 91 #[.agg #[.slice (some ⟨gr, 0, none⟩) xs.length cr, .int .i64 n, .bool ib, .int .i64 b, .int .i64 t, .int .i64 p, .int .i64 s, .slice (some ⟨gw, 0, none⟩) ms.length cw, .slice (some ⟨gg, 0, none⟩) bs.length cg, .int .i64 tr], .agg #[.int .i64 f0, .int .i64 f1, .int .i64 f2, .bool f3, .int .i64 f4, .int .i64 f5, .int .i64 f6, .int .i64 f7, .int .i64 f8, .bool f9, .int .i64 f10, .int .i64 f11, .int .i64 f12, .int .i64 f13, .int .i64 f14, .int .i64 f15, .bool f16, .int .i64 f17, .int .i64 f18, .int .i64 f19, .int .i64 f20, .int .i64 f21]] W Q := by
  refine (spec_l9Apply.safe hr hw hg d1 d2 d3 hst hv hn hp).mono ?_
  rintro e w' ⟨rfl, ⟨xs', a1, a2, a3⟩, ⟨ms', b1, b2, b3⟩, ⟨bs', c1, c2⟩, ⟨ks, kb⟩, hB⟩
  refine k xs' ms' bs' w' ⟨a1, b1, c1⟩ ⟨a2, b2⟩ a3 b3 c2 ks ⟨fun h j h1 h2 h3 hl => ?_, fun h j h1 h2 h3 hl => ?_⟩ ⟨hB⟩
  · unfold World.cell?; rw [kb h hl (by simp [h1, h2, h3])]
  · unfold World.frozen?; rw [kb h hl (by simp [h1, h2, h3])]
theorem wOkU {x : S29} (h : wOkT x = true) : wOk x.f0 x.f1 x.f2.f0 x.f2.f1 x.f2.f2 x.f2.f3 = true := h
def spec_Step.T8 : Bool × List (List Nat × List Nat) := (true, [([], []), ([0], [0]), ([], []), ([2], [2]), ([1, 3], [1, 3]), ([4], [4]), ([], []), ([6], [6]), ([], []), ([8], [8]), ([7, 9], [7, 9]), ([10], [10]), ([], []), ([], []), ([12, 5, 0, 1, 2, 3, 4, 5, 12, 13], [5, 12]), ([13, 11, 14, 0, 1, 2, 3, 4, 5, 6, 7, 8, 9, 10, 11, 12, 13, 14], [11, 13])])
def spec_Step.B8 : List Nat := [0, 1, 0, 4, 15, 31, 0, 64, 0, 256, 960, 1984, 0, 0, 12351, 32767]
theorem spec_Step.tab8 : rtab .any (opsOf Try.f80 8) = spec_Step.T8 := by kernel_rfl
theorem spec_Step.bits8 : waitsOk spec_Step.T8.2 spec_Step.B8 = true := by kernel_rfl
set_option maxHeartbeats 8000000 in
set_option maxRecDepth 100000 in
theorem spec_Step.safe {w : World} {A : Option Addr} {c : Nat} {l : List S25} {gr cr gw cw gg cg : Nat} {xs ms : List S29} {bs : List Bool} {n : Int} {ib : Bool} {b t p s : Int} (hl0 : Kd.C k25 w A l.length l) (hc : l.length ≤ c) (hl : l.length ≤ 2000000)
    (hr : RG k29 29 w gr cr xs) (hw : RG k29 29 w gw cw ms) (hg : RG Kd.bool 4 w gg cg bs) (hst : Pure.stM xs n ib b t p s ms bs 0 = true) :
    Calls Try.prog 80 #[.slice A l.length c, .agg #[.slice (some ⟨gr, 0, none⟩) xs.length cr, .int .i64 n, .bool ib, .int .i64 b, .int .i64 t, .int .i64 p, .int .i64 s, .slice (some ⟨gw, 0, none⟩) ms.length cw, .slice (some ⟨gg, 0, none⟩) bs.length cg, .int .i64 0]] w fun e w' => ∃ v, e = .returned v ∧ SP w w' v ∧ Below w.heap.size w w' := by
 obtain ⟨q1, q2, q3, q4, q5, q6⟩ := stM_parts hst
 have hu60 := Try.underlying60; have hu29 := Try.underlying29; have hu33 := Try.underlying33; have hu58 := Try.underlying58; have hu25 := Try.underlying25
 have l1 : 8 ≤ xs.length ∧ xs.length ≤ 8 := by omega
 replace hst := Aside0.mk hst; replace q1 := Aside0.mk q1; replace q2 := Aside0.mk q2; replace q3 := Aside0.mk q3; replace q4 := Aside0.mk q4; replace q5 := Aside0.mk q5; replace q6 := Aside0.mk q6
 have y1 := dz1 (n := gr) hr.lt; have y2 := dz1 (n := gw) hw.lt; have y3 := dz1 (n := gg) hg.lt
 go_enter Try.func80, Try.ntmps80
 go_wp2_with (first
  | (go_at_call 88; (with_reducible refine dmn (s88 dRG dRG dRG hst.out) ?_); intro x1 hb hd; have z := dz2 (n := w.heap.size) hb.size; have y1 := dz1 (n := gr) hb.size; have y2 := dz1 (n := gw) hb.size; have y3 := dz1 (n := gg) hb.size)
  | (go_at_call 89; (with_reducible refine dmv (s89 dRG dRG dRG hst.out) ?_); rintro _ x2 ⟨gr2, cr2, gw2, cw2, gg2, cg2, rfl, r1, r2, r3, ne, g1, g2, g3⟩ hb hd; have z := dz2 (n := w.heap.size) hb.size; have y1 := dz1 (n := gr) hb.size; have y2 := dz1 (n := gw) hb.size; have y3 := dz1 (n := gg) hb.size; have v1 := dz1 (n := gr2) r1.lt; have v2 := dz1 (n := gw2) r2.lt; have v3 := dz1 (n := gg2) r3.lt; have z1 := dz2 (n := w.heap.size) g1; have z2 := dz2 (n := w.heap.size) g2; have z3 := dz2 (n := w.heap.size) g3)
  | (go_at_call 10; (with_reducible refine dmv (s10 (Kd.C_below hl0 dBe) hc hl) ?_); rintro _ x3 ⟨a0, a1, a2, a3, a4, tr, rfl, hab⟩ hb hd; have z := dz2 (n := w.heap.size) hb.size; have y1 := dz1 (n := gr) hb.size; have y2 := dz1 (n := gw) hb.size; have y3 := dz1 (n := gg) hb.size; have v1 := dz1 (n := gr2) hb.size; have v2 := dz1 (n := gw2) hb.size; have v3 := dz1 (n := gg2) hb.size; have u2 := dz1 (n := x2.heap.size) hb.size; rcases Decidable.em (tr = 0) with h0 | h0; all_goals (first | (subst h0; obtain ⟨i2, i3⟩ := hab rfl) | (have t0 : (tr == 0) = false := beq_eq_false_iff_ne.mpr h0; have h0 := Aside0.mk h0))))
 ·have ix := dix (i := a2) (n := xs.length) (by omega) (by omega); have iy := dix (i := a3) (n := xs.length) (by omega) (by omega); have e1 := hr.w6 a2 (by omega) (by omega); have e2 := hr.w6 a3 (by omega) (by omega)
  have o1 := Aside0.mk (wOkU (all_rd xs a2 q2.out (by omega) (by omega)).2); have o2 := Aside0.mk (wOkU (all_rd xs a3 q2.out (by omega) (by omega)).2)
  refine dst 0 none [] (ml [0, 16]) spec_Step.tab8 spec_Step.bits8 (fun HT_ HW_ hH => ?_)
  refine rP HT_.out 0 32 (ml [1, 15]) ?_
  refine rP HT_.out 2 34 (ml [1, 1, 1, 13]) ?_
  refine rP HT_.out 6 38 (ml [1, 1, 1, 3, 1, 9]) ?_
  refine rP HT_.out 8 40 (ml [1, 1, 1, 3, 1, 1, 1, 7]) ?_
  refine dT HT_.out HW_.out hH 1 33 (ml [3, 3, 1, 1, 1, 7]) ?_
  refine dT HT_.out HW_.out hH 3 35 (ml [4, 2, 1, 1, 1, 7]) ?_
  refine rP HT_.out 4 36 (ml [5, 1, 1, 1, 1, 7]) ?_
  refine dT HT_.out HW_.out hH 5 37 (ml [7, 1, 1, 7]) ?_
  refine dT HT_.out HW_.out hH 7 39 (ml [9, 7]) ?_
  refine dT HT_.out HW_.out hH 9 41 (ml [10, 6]) ?_
  refine rP HT_.out 10 42 (ml [11, 5]) ?_
  refine dT HT_.out HW_.out hH 11 43 (ml [12, 4]) ?_
  refine two_ (i := 12) (j := 13) (Ni := some 8) (Nj := some 9) (ml [13, 3]) (ml [12, 1, 1, 2]) rfl rfl rfl rfl (two_of HT_.out (by kernel_rfl)) (by decide) (by decide) (fun K hK => qA hK (fun hH => ?_)) (fun K hK => qA hK (fun hH => ?_))
  rotate_left
  refine dA HT_.out 12 (ml [14, 2]) (fun hH => ?_)
  rotate_left
  refine dA HT_.out 13 (ml [14, 2]) (fun hH => ?_)
  all_goals
   refine dS HT_.out 14 (ml [15, 1]) (fun hH => ?_)
   refine dS HT_.out 15 (ml [16]) (fun hH => ?_)
   refine done_ (done_of HT_.out (by kernel_rfl)) ?_
   go_wp2_with (first
    | (go_at_call 90; (with_reducible refine dmv (s90 dRG dRG q4.out q6.out q5.out) ?_); rintro _ x4 ⟨d1, d2, d3, d4, d5, d6, tr, rfl, hg4⟩ hb hd; replace hg4 := Aside0.mk hg4; have z := dz2 (n := w.heap.size) hb.size; have y1 := dz1 (n := gr) hb.size; have y2 := dz1 (n := gw) hb.size; have y3 := dz1 (n := gg) hb.size; have v1 := dz1 (n := gr2) hb.size; have v2 := dz1 (n := gw2) hb.size; have v3 := dz1 (n := gg2) hb.size; have u2 := dz1 (n := x2.heap.size) hb.size; have u3 := dz3 (n := x3.heap.size) hb.size; rcases Decidable.em (tr = 0) with h0 | h0; all_goals (first | subst h0 | (have t0 : (tr == 0) = false := beq_eq_false_iff_ne.mpr h0; replace h0 := Aside0.mk h0)))
    | (go_at_call 7; (with_reducible refine dmv (s7 q3.out o1.out o2.out hg4.out) ?_); rintro _ x5 ⟨f0, f1, f2, f3, f4, f5, f6, f7, f8, f9, f10, f11, f12, f13, f14, f15, f16, f17, f18, f19, f20, f21, rfl, p1, p2, p3⟩ hb hd; replace p1 := Aside0.mk p1; replace p2 := Aside0.mk p2; replace p3 := Aside0.mk p3; have z := dz2 (n := w.heap.size) hb.size; have v1 := dz1 (n := gr2) hb.size; have v2 := dz1 (n := gw2) hb.size; have v3 := dz1 (n := gg2) hb.size; have u2 := dz1 (n := x2.heap.size) hb.size; have u3 := dz3 (n := x3.heap.size) hb.size; have u4 := dz1 (n := x4.heap.size) hb.size; (first | (have t9 := t0) | (rcases Decidable.em (f0 = 0) with h1 | h1; all_goals (first | subst h1 | (have t1 : (f0 == 0) = false := beq_eq_false_iff_ne.mpr h1; replace h1 := Aside0.mk h1)))))
    | ((with_reducible refine dgl (t := 33) rfl ?_); refine drowl (ty := 33) Try.underlying33 ?_)
    | ((with_reducible refine gate_store (t := 33) (p := 12) rfl ?_); refine drowx 33 ?_; intro wr_ hx_ hc_; have zw : x5.heap.size + 1 ≤ wr_.heap.size := (by have hq := hc_.2.2.2.1; simp at hq; omega))
    | (go_at_call 91; (with_reducible refine dap ne (RG.ne r1 r3 (by decide)) (RG.ne r2 r3 (by decide)) hst.out p1.out p2.out p3.out ?_); intro xs' ms' bs' x6 k1 k2 r1' r2' r3' hs hd hB; have hb6 := hB.out w (by omega) (by omega) (by omega) dBe; have z := dz2 (n := w.heap.size) hs; have z1 := dz1 (n := x2.heap.size) hs))
  all_goals refine bodyPost_ret (drc rfl _ _ rfl (by go_simp; rfl)) rfl ?_
  all_goals (first
   | exact ⟨_, rfl, ⟨_, _, _, _, _, _, _, _, _, _, _, _, _, _, _, _, rfl, fun h => absurd h h0.out⟩, dBe⟩
   | exact ⟨_, rfl, ⟨_, _, _, _, _, _, _, _, _, _, _, _, _, _, _, _, rfl, fun h => absurd h h1.out⟩, dBe⟩
   | exact ⟨_, rfl, ⟨_, _, _, _, _, _, _, _, _, _, _, _, _, _, _, _, rfl, fun _ => ⟨gr2, cr2, gw2, cw2, gg2, cg2, xs', ms', bs', _, _, _, _, _, _, by rw [k1.out.1, k1.out.2.1, k1.out.2.2], stM_mk (k1.out.1.trans q1.out) k2.out.1 p2.out (k1.out.2.1.trans q4.out) k2.out.2 (k1.out.2.2.trans q6.out) (by decide), dRG, dRG, dRG, ne, by omega, by omega, by omega⟩⟩, dBe⟩)
 ·refine bodyPost_ret (drc rfl _ _ rfl (by go_simp; rfl)) rfl ?_
  exact ⟨_, rfl, ⟨_, _, _, _, _, _, _, _, _, _, _, _, _, _, _, _, rfl, fun h => absurd h h0.out⟩, dBe⟩
end Go.Proofs.Ytpcladboobfkhaa.PFnWork
