/- What a step calls, safely. -/
import Derived.Test.YtpcladboobfkhaaPFnWorkx44
namespace Go.Proofs.Ytpcladboobfkhaa.PFnWork
open Go.Proofs.Ytpcladboobfkhaa.Pure hiding stM
open Go.RowKit Go.Proofs.YtpcladboobfkhaaW.PrintWords Go.Proofs.YtpcladboobfkhaaW.PrintLast Go.Proofs.YtpcladboobfkhaaW.PrintMore Go.Proofs.YtpcladboobfkhaaW.Mine
attribute [local go_sem] dsc dhs dha ddr ddrN ddz ddc nn2 nn3 nn4 nn5 nn6 nn7 nn8 nn9
attribute [local go_sem] max2_int min2_int max_two min_two max_three min_three max_four min_four
set_option linter.unusedVariables false
set_option linter.unusedSimpArgs false
theorem RG.ne {α β : Type} {d : Kd α} {d' : Kd β} {e e' : Nat} {W : World} {g cap g' cap' : Nat} {xs : List α} {ys : List β} (h : RG d e W g cap xs) (h' : RG d' e' W g' cap' ys) (he : e ≠ e') : g ≠ g' := by
  rintro rfl
  obtain ⟨c, hc⟩ := own_typed (Kd.R_own h).choose_spec g (by simp [Value.ownBlock])
  obtain ⟨c', hc'⟩ := own_typed (Kd.R_own h').choose_spec g (by simp [Value.ownBlock])
  rw [hc] at hc'; injection hc' with h1; injection h1 with _ h2; exact he h2
/-- a right state, its slices made behind w -/
def SOK (w w' : World) (v : Value) : Prop := ∃ gr cr gw cw gg cg xs ms bs n ib b t p s, v = .agg #[.slice (some ⟨gr, 0, none⟩) xs.length cr, .int .i64 n, .bool ib, .int .i64 b, .int .i64 t, .int .i64 p, .int .i64 s, .slice (some ⟨gw, 0, none⟩) ms.length cw, .slice (some ⟨gg, 0, none⟩) bs.length cg, .int .i64 0] ∧
  Pure.stM xs n ib b t p s ms bs 0 = true ∧ RG k29 29 w' gr cr xs ∧ RG k29 29 w' gw cw ms ∧ RG Kd.bool 4 w' gg cg bs ∧ gr ≠ gw ∧ w.heap.size ≤ gr ∧ w.heap.size ≤ gw ∧ w.heap.size ≤ gg
/-- a state, right where it does not trap -/
def SP (w w' : World) (v : Value) : Prop := ∃ A0 n0 c0 n ib b t p s A7 n7 c7 A8 n8 c8 tr, v = .agg #[.slice A0 n0 c0, .int .i64 n, .bool ib, .int .i64 b, .int .i64 t, .int .i64 p, .int .i64 s, .slice A7 n7 c7, .slice A8 n8 c8, .int .i64 tr] ∧ (tr = 0 → SOK w w' v)
section
variable {w : World} {gr cr gw cw gg cg : Nat} {xs ms : List S29} {bs : List Bool} {n : Int} {ib : Bool} {b t p s tr : Int}
theorem s88 (hr : RG k29 29 w gr cr xs) (hw : RG k29 29 w gw cw ms) (hg : RG Kd.bool 4 w gg cg bs) (hst : Pure.stM xs n ib b t p s ms bs tr = true) : Calls Try.prog 88 #[.agg #[.slice (some ⟨gr, 0, none⟩) xs.length cr, .int .i64 n, .bool ib, .int .i64 b, .int .i64 t, .int .i64 p, .int .i64 s, .slice (some ⟨gw, 0, none⟩) ms.length cw, .slice (some ⟨gg, 0, none⟩) bs.length cg, .int .i64 tr]] w fun e w' => e = .returned (.bool true) ∧ Below w.heap.size w w' := by
  obtain ⟨q1, q2, q3, q4, q5, q6⟩ := stM_parts hst
  exact spec_StateOk.calls (h := (spec_StateOk_eq 100 xs n ib b t p s ms bs tr (by omega) (by omega)).trans (by rw [hst])) (w := w) (hr0_0 := hr.C.1) (hc0_0 := hr.C.2) (hr0_7 := hw.C.1) (hc0_7 := hw.C.2) (hr0_8 := hg.C.1) (hc0_8 := hg.C.2)
theorem s89 (hr : RG k29 29 w gr cr xs) (hw : RG k29 29 w gw cw ms) (hg : RG Kd.bool 4 w gg cg bs) (hst : Pure.stM xs n ib b t p s ms bs 0 = true) : Calls Try.prog 89 #[.agg #[.slice (some ⟨gr, 0, none⟩) xs.length cr, .int .i64 n, .bool ib, .int .i64 b, .int .i64 t, .int .i64 p, .int .i64 s, .slice (some ⟨gw, 0, none⟩) ms.length cw, .slice (some ⟨gg, 0, none⟩) bs.length cg, .int .i64 0]] w fun e w' => ∃ v, e = .returned v ∧ (∃ gr cr gw cw gg cg, v = .agg #[.slice (some ⟨gr, 0, none⟩) xs.length cr, .int .i64 n, .bool ib, .int .i64 b, .int .i64 t, .int .i64 p, .int .i64 s, .slice (some ⟨gw, 0, none⟩) ms.length cw, .slice (some ⟨gg, 0, none⟩) bs.length cg, .int .i64 0] ∧ RG k29 29 w' gr cr xs ∧ RG k29 29 w' gw cw ms ∧ RG Kd.bool 4 w' gg cg bs ∧ gr ≠ gw ∧ w.heap.size ≤ gr ∧ w.heap.size ≤ gw ∧ w.heap.size ≤ gg) ∧ Below w.heap.size w w' := by
  obtain ⟨q1, q2, q3, q4, q5, q6⟩ := stM_parts hst
  refine (spec_l9Copy.calls (h := copy9_eq xs n ib b t p s ms bs 0 (by omega) (by omega) (by omega)) (w := w) (hr0_0 := hr.C.1) (hc0_0 := hr.C.2) (hr0_7 := hw.C.1) (hc0_7 := hw.C.2) (hr0_8 := hg.C.1) (hc0_8 := hg.C.2)).mono ?_
  rintro e w' ⟨v0, v7, v8, rfl, h0, h7, h8, hb⟩
  obtain ⟨g0, c0, rfl, a0, a1, a2, a3⟩ := RG.of rfl h0 (by omega)
  obtain ⟨g7, c7, rfl, b0, b1, b2, b3⟩ := RG.of rfl h7 (by omega)
  obtain ⟨g8, c8, rfl, d0, d1, d2, d3⟩ := RG.of rfl h8 (by omega)
  exact ⟨_, rfl, ⟨g0, c0, g7, c7, g8, c8, rfl, a3, b3, d3, by simpa [Value.ownBlock] using a1, a0, b0, d0⟩, hb⟩
theorem s10 {A : Option Addr} {c : Nat} {l : List S25} (hr : Kd.C k25 w A l.length l) (hc : l.length ≤ c) (hl : l.length ≤ 2000000) : Calls Try.prog 10 #[.slice A l.length c, .agg #[.int .i64 n, .bool ib, .int .i64 b, .int .i64 t, .int .i64 p, .int .i64 s]] w fun e w' => ∃ v, e = .returned v ∧ (∃ x0 x1 x2 x3 x4 tr, v = .tuple #[.agg #[.int .i64 x0, .int .i64 x1, .int .i64 x2, .int .i64 x3, .int .i64 x4], .int .i64 tr] ∧ (tr = 0 → (0 ≤ x2 ∧ x2 ≤ 7) ∧ (0 ≤ x3 ∧ x3 ≤ 7))) ∧ Below w.heap.size w w' := by
  have hf := fetch_ab l n ib b t p s
  have he := spec_Fetch_eq 0 l n ib b t p s hl
  obtain ⟨x0, x1, x2, x3, x4, tr⟩ := fetchM l n ib b t p s
  refine (spec_Fetch.calls (h := he) (w := w) (hr0 := hr) (hc0 := hc)).mono ?_
  rintro e w' ⟨rfl, hb⟩
  exact ⟨_, rfl, ⟨_, _, _, _, _, _, rfl, hf⟩, hb⟩
theorem s90 {x0 x1 x2 x3 x4 n1 : Int} {i1 : Bool} {b1 t1 p1 s1 n2 : Int} {i2 : Bool} {b2 t2 p2 s2 : Int} (hw : RG k29 29 w gw cw ms) (hg : RG Kd.bool 4 w gg cg bs) (q4 : ms.length = 24) (q6 : bs.length = 24) (q5 : ms.all wOkT = true) : Calls Try.prog 90 #[.agg #[.slice (some ⟨gw, 0, none⟩) ms.length cw, .slice (some ⟨gg, 0, none⟩) bs.length cg], .agg #[.int .i64 x0, .int .i64 x1, .int .i64 x2, .int .i64 x3, .int .i64 x4], .agg #[.int .i64 n1, .bool i1, .int .i64 b1, .int .i64 t1, .int .i64 p1, .int .i64 s1], .agg #[.int .i64 n2, .bool i2, .int .i64 b2, .int .i64 t2, .int .i64 p2, .int .i64 s2]] w fun e w' => ∃ v, e = .returned v ∧ (∃ n b x y z s tr, v = .tuple #[.agg #[.int .i64 n, .bool b, .int .i64 x, .int .i64 y, .int .i64 z, .int .i64 s], .int .i64 tr] ∧ wOk n b x y z s = true) ∧ Below w.heap.size w w' := by
  obtain ⟨⟨y1, y2, y3, y4, y5, y6, y7⟩, e, hy⟩ := lmem_ok 0 ms bs x0 x1 x2 x3 x4 n1 i1 b1 t1 p1 s1 n2 i2 b2 t2 p2 s2 q4 q6 q5
  refine (spec_l9Mem.calls (h := e) (w := w) (hr0_0 := hw.C.1) (hc0_0 := hw.C.2) (hr0_1 := hg.C.1) (hc0_1 := hg.C.2)).mono ?_
  rintro e w' ⟨rfl, hb⟩
  exact ⟨_, rfl, ⟨_, _, _, _, _, _, _, rfl, hy⟩, hb⟩
def EV (v : Value) : Prop := ∃ f0 f1 f2 f3 f4 f5 f6 f7 f8 f9 f10 f11 f12 f13 f14 f15 f16 f17 f18 f19 f20 f21, v = .agg #[.int .i64 f0, .int .i64 f1, .int .i64 f2, .bool f3, .int .i64 f4, .int .i64 f5, .int .i64 f6, .int .i64 f7, .int .i64 f8, .bool f9, .int .i64 f10, .int .i64 f11, .int .i64 f12, .int .i64 f13, .int .i64 f14, .int .i64 f15, .bool f16, .int .i64 f17, .int .i64 f18, .int .i64 f19, .int .i64 f20, .int .i64 f21] ∧ wOk f2 f3 f4 f5 f6 f7 = true ∧ wOk f8 f9 f10 f11 f12 f13 = true ∧ wOk f15 f16 f17 f18 f19 f20 = true
theorem s7 {x0 x1 x2 x3 x4 n0 : Int} {i0 : Bool} {b0 t0 p0 s0 n1 : Int} {i1 : Bool} {b1 t1 p1 s1 n2 : Int} {i2 : Bool} {b2 t2 p2 s2 n3 : Int} {i3 : Bool} {b3 t3 p3 s3 : Int} (o0 : wOk n0 i0 b0 t0 p0 s0 = true) (o1 : wOk n1 i1 b1 t1 p1 s1 = true) (o2 : wOk n2 i2 b2 t2 p2 s2 = true) (o3 : wOk n3 i3 b3 t3 p3 s3 = true) : Calls Try.prog 7 #[.agg #[.int .i64 x0, .int .i64 x1, .int .i64 x2, .int .i64 x3, .int .i64 x4], .agg #[.int .i64 n0, .bool i0, .int .i64 b0, .int .i64 t0, .int .i64 p0, .int .i64 s0], .agg #[.int .i64 n1, .bool i1, .int .i64 b1, .int .i64 t1, .int .i64 p1, .int .i64 s1], .agg #[.int .i64 n2, .bool i2, .int .i64 b2, .int .i64 t2, .int .i64 p2, .int .i64 s2], .agg #[.int .i64 n3, .bool i3, .int .i64 b3, .int .i64 t3, .int .i64 p3, .int .i64 s3]] w fun e w' => ∃ v, e = .returned v ∧ EV v ∧ Below w.heap.size w w' := by
  obtain ⟨⟨f0, f1, f2, f3, f4, f5, f6, f7, f8, f9, f10, f11, f12, f13, f14, f15, f16, f17, f18, f19, f20, f21⟩, _, e, g1, g2, g3, _⟩ := work_good 0 x0 x1 x2 x3 x4 n0 i0 b0 t0 p0 s0 n1 i1 b1 t1 p1 s1 n2 i2 b2 t2 p2 s2 n3 i3 b3 t3 p3 s3 [⟨n0, i0, ⟨b0, t0, p0, s0⟩⟩, ⟨n1, i1, ⟨b1, t1, p1, s1⟩⟩, ⟨n2, i2, ⟨b2, t2, p2, s2⟩⟩, ⟨n3, i3, ⟨b3, t3, p3, s3⟩⟩] o0 (by simp) o1 (by simp) o2 (by simp) o3 (by simp)
  refine (spec_Work.calls (h := e) (w := w)).mono ?_
  rintro e w' ⟨rfl, hb⟩
  exact ⟨_, rfl, ⟨_, _, _, _, _, _, _, _, _, _, _, _, _, _, _, _, _, _, _, _, _, _, rfl, g1.1, g2.1, g3.1⟩, hb⟩
end
end Go.Proofs.Ytpcladboobfkhaa.PFnWork
