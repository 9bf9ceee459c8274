-- Written by a program of this session (wip/patch.py turns a copy of the kit's print): the functions that the law reaches, and their walks.
import Derived.Test.YtpcladboobfkhaaPFnWorkx0
import Derived.Test.YtpcladboobfkhaaPFnWorkx2
import Derived.Test.YtpcladboobfkhaaPFnWorkx4
import Derived.Test.YtpcladboobfkhaaPFnWorkx6
import Derived.Test.YtpcladboobfkhaaCFnWork
import Derived.Test.YtpcladboobfkhaaEFnWork
namespace Go.Proofs.Ytpcladboobfkhaa.PFnWork
open Go.RowKit Go.Proofs.YtpcladboobfkhaaW.PrintWords Go.Proofs.YtpcladboobfkhaaW.PrintLast Go.Proofs.YtpcladboobfkhaaW.PrintMore Go.Proofs.YtpcladboobfkhaaW.Mine
attribute [local go_sem] dsc dhs dha ddr ddrN
attribute [local go_sem] max2_int min2_int max_two min_two max_three min_three max_four min_four   -- for this text's walks alone
set_option linter.unusedVariables false
set_option linter.unusedSimpArgs false

attribute [local go_sem high] eqA27
/-! ### spec_WordOk: function 11 -/
def spec_WordOk.f (k : Nat) (a0_0 : Int) (a0_1 : Bool) (a0_2 : Int) (a0_3 : Int) (a0_4 : Int) (a0_5 : Int) : Option (Bool) := (spec_l1In.f a0_0 0 65535).bind fun bA => (if bA = true then (if a0_1 = true then ((spec_KeyOk.f k a0_2 a0_3 a0_4 a0_5).bind fun bl => (if bl = true then (some true) else (some false))) else (some (a0_2 == 0 && (a0_3 == 0 && (a0_4 == 0 && (a0_5 == 0)))))) else (some false))
theorem spec_WordOk.mono : ∀ a0 a1 a2 a3 a4 a5 k, LeO (spec_WordOk.f k a0 a1 a2 a3 a4 a5) (spec_WordOk.f (k + 1) a0 a1 a2 a3 a4 a5) := by
 intro a0 a1 a2 a3 a4 a5 k
 unfold spec_WordOk.f
 repeat' first
   | (with_reducible exact spec_KeyOk.mono _ _ _ _ _)
   | (with_reducible exact LeO.refl _)
   | (with_reducible exact LeO.none _)
   | (with_reducible refine LeO.ite ?_ ?_)
   | (with_reducible refine LeO.bind ?_ (fun _ => ?_))
   | exact spec_KeyOk.mono _ _ _ _ _
   | exact LeO.none _
   | refine LeO.ite ?_ ?_
   | refine LeO.bind ?_ (fun _ => ?_)
set_option maxHeartbeats 8000000 in
set_option maxRecDepth 100000 in
theorem spec_WordOk.calls (k : Nat) (a0_0 : Int) (a0_1 : Bool) (a0_2 : Int) (a0_3 : Int) (a0_4 : Int) (a0_5 : Int) (r : Bool) (w : World) (h : spec_WordOk.f k a0_0 a0_1 a0_2 a0_3 a0_4 a0_5 = some r) :
  Calls Try.prog 11 #[.agg #[.int .i64 a0_0, .bool a0_1, .int .i64 a0_2, .int .i64 a0_3, .int .i64 a0_4, .int .i64 a0_5]] w fun e w' => e = .returned (.bool r) ∧ Below w.heap.size w w' := by
 have hu29 := Try.underlying29; have hu27 := Try.underlying27; have H := h; clear h; unfold spec_WordOk.f at H; (try dsimp only at H); replace H := Option.bind_eq_some_iff.mp H; obtain ⟨bA, A20, H⟩ := H; (try dsimp only at H); have A2 := Aside0.mk A20; clear A20
 by_cases c3 : bA = true
 ·subst c3
  rw [if_pos rfl] at H; (try dsimp only at H)
  by_cases c4 : a0_1 = true
  ·subst c4
   rw [if_pos rfl] at H; (try dsimp only at H); replace H := Option.bind_eq_some_iff.mp H; obtain ⟨bl, A50, H⟩ := H; (try dsimp only at H); have A5 := Aside0.mk A50; clear A50
   by_cases c6 : bl = true
   ·subst c6
    rw [if_pos rfl] at H; (try dsimp only at H); obtain rfl := Option.some.inj H
    go_enter Try.func11, Try.ntmps11
    go_wp2_with (first | (go_at_call 32; (with_reducible refine (spec_l1In.calls (h := A2.out) (w := _)).mono ?_); rintro e w' ⟨rfl, ⟨nd_, rfl⟩⟩) | (go_at_call 34; (with_reducible refine dmn (spec_KeyOk.calls (h := A5.out) (w := _)) ?_); intro x1 hb1 hc; have hw := dsz (n := w.heap.size + 1) hb1; have z := dl1 hw))
    go_ret; exact ⟨er_, dfi⟩
   ·replace c6 := Bool.eq_false_iff.mpr c6
    subst c6; rw [if_neg (show ¬ (false = true) by decide)] at H; (try dsimp only at H); obtain rfl := Option.some.inj H
    go_enter Try.func11, Try.ntmps11
    go_wp2_with (first | (go_at_call 32; (with_reducible refine (spec_l1In.calls (h := A2.out) (w := _)).mono ?_); rintro e w' ⟨rfl, ⟨nd_, rfl⟩⟩) | (go_at_call 34; (with_reducible refine dmn (spec_KeyOk.calls (h := A5.out) (w := _)) ?_); intro x1 hb1 hc; have hw := dsz (n := w.heap.size + 1) hb1; have z := dl1 hw))
    go_ret; exact ⟨er_, dfi⟩
  ·replace c4 := Bool.eq_false_iff.mpr c4
   subst c4; rw [if_neg (show ¬ (false = true) by decide)] at H; (try dsimp only at H); obtain rfl := Option.some.inj H
   go_enter Try.func11, Try.ntmps11
   go_wp2_with (first | (go_at_call 32; (with_reducible refine (spec_l1In.calls (h := A2.out) (w := _)).mono ?_); rintro e w' ⟨rfl, ⟨nd_, rfl⟩⟩))
   go_ret; exact ⟨er_, dfi⟩
 ·replace c3 := Bool.eq_false_iff.mpr c3
  subst c3; rw [if_neg (show ¬ (false = true) by decide)] at H; (try dsimp only at H); obtain rfl := Option.some.inj H
  go_enter Try.func11, Try.ntmps11
  go_wp2_with (first | (go_at_call 32; (with_reducible refine (spec_l1In.calls (h := A2.out) (w := _)).mono ?_); rintro e w' ⟨rfl, ⟨nd_, rfl⟩⟩))
  go_ret; exact ⟨er_, dfi⟩
/-! ### spec_l4Open: function 54 -/
def spec_l4Open.f (k : Nat) (a0_0 : Int) (a0_1 : Bool) (a0_2 : Int) (a0_3 : Int) (a0_4 : Int) (a0_5 : Int) : Option (Bool) := (spec_WordOk.f k a0_0 a0_1 a0_2 a0_3 a0_4 a0_5).bind fun bD => (if bD = true then (if a0_1 = true then (some (a0_5 == 0)) else (some false)) else (some false))
theorem spec_l4Open.mono : ∀ a0 a1 a2 a3 a4 a5 k, LeO (spec_l4Open.f k a0 a1 a2 a3 a4 a5) (spec_l4Open.f (k + 1) a0 a1 a2 a3 a4 a5) := by
 intro a0 a1 a2 a3 a4 a5 k
 unfold spec_l4Open.f
 repeat' first
   | (with_reducible exact spec_WordOk.mono _ _ _ _ _ _ _)
   | (with_reducible exact LeO.refl _)
   | (with_reducible exact LeO.none _)
   | (with_reducible refine LeO.ite ?_ ?_)
   | (with_reducible refine LeO.bind ?_ (fun _ => ?_))
   | exact spec_WordOk.mono _ _ _ _ _ _ _
   | exact LeO.none _
   | refine LeO.ite ?_ ?_
   | refine LeO.bind ?_ (fun _ => ?_)
set_option maxHeartbeats 8000000 in
set_option maxRecDepth 100000 in
theorem spec_l4Open.calls (k : Nat) (a0_0 : Int) (a0_1 : Bool) (a0_2 : Int) (a0_3 : Int) (a0_4 : Int) (a0_5 : Int) (r : Bool) (w : World) (h : spec_l4Open.f k a0_0 a0_1 a0_2 a0_3 a0_4 a0_5 = some r) :
  Calls Try.prog 54 #[.agg #[.int .i64 a0_0, .bool a0_1, .int .i64 a0_2, .int .i64 a0_3, .int .i64 a0_4, .int .i64 a0_5]] w fun e w' => e = .returned (.bool r) ∧ Below w.heap.size w w' := by
 have hu29 := Try.underlying29; have H := h; clear h; unfold spec_l4Open.f at H; (try dsimp only at H); replace H := Option.bind_eq_some_iff.mp H; obtain ⟨bD, A20, H⟩ := H; (try dsimp only at H); have A2 := Aside0.mk A20; clear A20
 by_cases c3 : bD = true
 ·subst c3
  rw [if_pos rfl] at H; (try dsimp only at H)
  by_cases c4 : a0_1 = true
  ·subst c4
   rw [if_pos rfl] at H; (try dsimp only at H); obtain rfl := Option.some.inj H
   go_enter Try.func54, Try.ntmps54
   go_wp2_with (first | (go_at_call 11; (with_reducible refine dmn (spec_WordOk.calls (h := A2.out) (w := _)) ?_); intro x1 hb1 hc; have hw := dsz (n := w.heap.size + 1) hb1; have z := dl1 hw))
   go_ret; exact ⟨er_, dfi⟩
  ·replace c4 := Bool.eq_false_iff.mpr c4
   subst c4; rw [if_neg (show ¬ (false = true) by decide)] at H; (try dsimp only at H); obtain rfl := Option.some.inj H
   go_enter Try.func54, Try.ntmps54
   go_wp2_with (first | (go_at_call 11; (with_reducible refine dmn (spec_WordOk.calls (h := A2.out) (w := _)) ?_); intro x1 hb1 hc; have hw := dsz (n := w.heap.size + 1) hb1; have z := dl1 hw))
   go_ret; exact ⟨er_, dfi⟩
 ·replace c3 := Bool.eq_false_iff.mpr c3
  subst c3; rw [if_neg (show ¬ (false = true) by decide)] at H; (try dsimp only at H); obtain rfl := Option.some.inj H
  go_enter Try.func54, Try.ntmps54
  go_wp2_with (first | (go_at_call 11; (with_reducible refine dmn (spec_WordOk.calls (h := A2.out) (w := _)) ?_); intro x1 hb1 hc; have hw := dsz (n := w.heap.size + 1) hb1; have z := dl1 hw))
  go_ret; exact ⟨er_, dfi⟩
/-! ### spec_Point: function 24 -/
def spec_Point.f (k : Nat) (a0_0 : Int) (a0_1 : Bool) (a0_2 : Int) (a0_3 : Int) (a0_4 : Int) (a0_5 : Int) (a1 : Int) : Option (Int × Bool × Int × Int × Int × Int) := (spec_l4Open.f k a0_0 a0_1 a0_2 a0_3 a0_4 a0_5).bind fun bE => (if bE = true then (some (Go.bits .and .i64 a1 65535, a0_1, a0_2, a0_3, a0_4, a0_5)) else ((spec_Plain.f a1).bind fun ba => (some (ba.1, ba.2.1, ba.2.2.1, ba.2.2.2.1, ba.2.2.2.2.1, ba.2.2.2.2.2))))
theorem spec_Point.mono : ∀ a0 a1 a2 a3 a4 a5 a6 k, LeO (spec_Point.f k a0 a1 a2 a3 a4 a5 a6) (spec_Point.f (k + 1) a0 a1 a2 a3 a4 a5 a6) := by
 intro a0 a1 a2 a3 a4 a5 a6 k
 unfold spec_Point.f
 repeat' first
   | (with_reducible exact spec_l4Open.mono _ _ _ _ _ _ _)
   | (with_reducible exact LeO.refl _)
   | (with_reducible exact LeO.none _)
   | (with_reducible refine LeO.ite ?_ ?_)
   | (with_reducible refine LeO.bind ?_ (fun _ => ?_))
   | exact spec_l4Open.mono _ _ _ _ _ _ _
   | exact LeO.none _
   | refine LeO.ite ?_ ?_
   | refine LeO.bind ?_ (fun _ => ?_)
set_option maxHeartbeats 8000000 in
set_option maxRecDepth 100000 in
theorem spec_Point.calls (k : Nat) (a0_0 : Int) (a0_1 : Bool) (a0_2 : Int) (a0_3 : Int) (a0_4 : Int) (a0_5 : Int) (a1 : Int) (r1 : Int) (r2 : Bool) (r3 : Int) (r4 : Int) (r5 : Int) (r6 : Int) (w : World) (h : spec_Point.f k a0_0 a0_1 a0_2 a0_3 a0_4 a0_5 a1 = some (r1, r2, r3, r4, r5, r6)) :
  Calls Try.prog 24 #[.agg #[.int .i64 a0_0, .bool a0_1, .int .i64 a0_2, .int .i64 a0_3, .int .i64 a0_4, .int .i64 a0_5], .int .i64 a1] w fun e w' => e = .returned (.agg #[.int .i64 r1, .bool r2, .int .i64 r3, .int .i64 r4, .int .i64 r5, .int .i64 r6]) ∧ Below w.heap.size w w' := by
 have hu29 := Try.underlying29; have H := h; clear h; unfold spec_Point.f at H; (try dsimp only at H); replace H := Option.bind_eq_some_iff.mp H; obtain ⟨bE, A30, H⟩ := H; (try dsimp only at H); have A3 := Aside0.mk A30; clear A30
 by_cases c4 : bE = true
 ·subst c4
  rw [if_pos rfl] at H; (try dsimp only at H); simp only [Option.some.injEq, Prod.mk.injEq] at H; obtain ⟨rfl, rfl, rfl, rfl, rfl, rfl⟩ := H
  go_enter Try.func24, Try.ntmps24
  go_wp2_with (first | (go_at_call 54; (with_reducible refine dmn (spec_l4Open.calls (h := A3.out) (w := _)) ?_); intro x1 hb1 hc; have hw := dsz (n := w.heap.size + 1 + 1) hb1; have z := dl2 hw))
  refine bodyPost_ret (drc rfl _ _ rfl (by go_simp; rfl)) rfl ?_; exact ⟨rfl, dfi⟩
 ·replace c4 := Bool.eq_false_iff.mpr c4
  subst c4; rw [if_neg (show ¬ (false = true) by decide)] at H; (try dsimp only at H); replace H := Option.bind_eq_some_iff.mp H; obtain ⟨⟨de, df, dg, dh, di, dj⟩, A120, H⟩ := H; (try dsimp only at H); have A12 := Aside0.mk A120; clear A120; simp only [Option.some.injEq, Prod.mk.injEq] at H; obtain ⟨rfl, rfl, rfl, rfl, rfl, rfl⟩ := H
  go_enter Try.func24, Try.ntmps24
  go_wp2_with (first | (go_at_call 54; (with_reducible refine dmn (spec_l4Open.calls (h := A3.out) (w := _)) ?_); intro x1 hb1 hc; have hw := dsz (n := w.heap.size + 1 + 1) hb1; have z := dl2 hw) | (go_at_call 40; (with_reducible refine dmn (spec_Plain.calls (h := A12.out) (w := _)) ?_); intro x2 hb2 hc; have hw := dsz (n := w.heap.size + 1 + 1) hb2; have z := dl2 hw))
  refine bodyPost_ret (drc rfl _ _ rfl (by go_simp; rfl)) rfl ?_; exact ⟨rfl, dfi⟩
/-! ### spec_Try: function 25 -/
def spec_Try.j0 : Nat → Int → Int → Bool → Int → Bool → Int → Int → Int → Int → Option (Int)
 | 0, _, _, _, _, _, _, _, _, _ => none
 | k + 1, x1, x2, x7, gZ, g0, eD, eE, eF, eG => if x7 = true then (some 1) else (if eG = 0 then (if (Go.bits .and .i64 eF x2) = x2 then (if x1 < eD then (some 4) else (if x1 ≥ eE then (some 4) else (some 0))) else (some 3)) else (some 2))
def spec_Try.f (k : Nat) (a0_0 : Int) (a0_1 : Bool) (a0_2 : Int) (a0_3 : Int) (a0_4 : Int) (a0_5 : Int) (a1 : Int) (a2 : Int) : Option (Int) := (spec_WordOk.f k a0_0 a0_1 a0_2 a0_3 a0_4 a0_5).bind fun bF => (if bF = true then (spec_Try.j0 k a1 a2 (!a0_1) a0_0 a0_1 a0_2 a0_3 a0_4 a0_5) else (spec_Try.j0 k a1 a2 true a0_0 a0_1 a0_2 a0_3 a0_4 a0_5))
theorem spec_Try.mono_l : ∀ k, (∀ y0 y1 y2 y3 y4 y5 y6 y7 y8, LeO (spec_Try.j0 k y0 y1 y2 y3 y4 y5 y6 y7 y8) (spec_Try.j0 (k + 1) y0 y1 y2 y3 y4 y5 y6 y7 y8))
 | 0 => fun _ _ _ _ _ _ _ _ _ r h => by simp [spec_Try.j0] at h
 | k + 1 => by
  have ih0 := spec_Try.mono_l k
  ·intro y0 y1 y2 y3 y4 y5 y6 y7 y8
   unfold spec_Try.j0
   repeat' first
   | (with_reducible exact ih0 _ _ _ _ _ _ _ _ _)
   | (with_reducible exact spec_WordOk.mono _ _ _ _ _ _ _)
   | (with_reducible exact LeO.refl _)
   | (with_reducible exact LeO.none _)
   | (with_reducible refine LeO.ite ?_ ?_)
   | (with_reducible refine LeO.bind ?_ (fun _ => ?_))
   | exact ih0 _ _ _ _ _ _ _ _ _
   | exact spec_WordOk.mono _ _ _ _ _ _ _
   | exact LeO.none _
   | refine LeO.ite ?_ ?_
   | refine LeO.bind ?_ (fun _ => ?_)
theorem spec_Try.mono : ∀ a0 a1 a2 a3 a4 a5 a6 a7 k, LeO (spec_Try.f k a0 a1 a2 a3 a4 a5 a6 a7) (spec_Try.f (k + 1) a0 a1 a2 a3 a4 a5 a6 a7) := by
 intro a0 a1 a2 a3 a4 a5 a6 a7 k; have ih0 := spec_Try.mono_l k
 unfold spec_Try.f
 repeat' first
   | (with_reducible exact ih0 _ _ _ _ _ _ _ _ _)
   | (with_reducible exact spec_WordOk.mono _ _ _ _ _ _ _)
   | (with_reducible exact LeO.refl _)
   | (with_reducible exact LeO.none _)
   | (with_reducible refine LeO.ite ?_ ?_)
   | (with_reducible refine LeO.bind ?_ (fun _ => ?_))
   | exact ih0 _ _ _ _ _ _ _ _ _
   | exact spec_WordOk.mono _ _ _ _ _ _ _
   | exact LeO.none _
   | refine LeO.ite ?_ ?_
   | refine LeO.bind ?_ (fun _ => ?_)
set_option maxHeartbeats 8000000 in
set_option maxRecDepth 100000 in
theorem spec_Try.calls (k : Nat) (a0_0 : Int) (a0_1 : Bool) (a0_2 : Int) (a0_3 : Int) (a0_4 : Int) (a0_5 : Int) (a1 : Int) (a2 : Int) (r : Int) (w : World) (h : spec_Try.f k a0_0 a0_1 a0_2 a0_3 a0_4 a0_5 a1 a2 = some r) :
  Calls Try.prog 25 #[.agg #[.int .i64 a0_0, .bool a0_1, .int .i64 a0_2, .int .i64 a0_3, .int .i64 a0_4, .int .i64 a0_5], .int .i64 a1, .int .i64 a2] w fun e w' => e = .returned (.int .i64 r) ∧ Below w.heap.size w w' := by
 have hu29 := Try.underlying29; have HB := Aside0.mk (Below.refl w.heap.size w); have H := h; clear h; unfold spec_Try.f at H; (try dsimp only at H); have dk := Aside0.mk H; clear H
 go_enter Try.func25, Try.ntmps25
 go_upto_region 1 with (first | ((with_reducible refine gate_dst (N := 3) rfl ?_); refine bxe 3 #[.int .i64 a0_0, .bool a0_1, .int .i64 a0_2, .int .i64 a0_3, .int .i64 a0_4, .int .i64 a0_5] 29 ?_; intro eH hg w5 hbox hb; have bc := hbox; have g1 := nge HB hg; have g2 := nge HB hg; replace HB := nbs HB hb; clear hb hbox hg))
 (try simp only [Act.put, List.setIfInBounds_toArray, List.set_cons_zero, List.set_cons_succ])
 go_cut [7] (fun v7 wc => ∃ (kq : Nat) (b7 : Bool), v7 = .bool b7 ∧ Aside0 (spec_Try.j0 kq a1 a2 b7 a0_0 a0_1 a0_2 a0_3 a0_4 a0_5 = some r) ∧ Aside0 (kq ≤ k) ∧ Aside0 (wc.heap[eH]? = some (.cells #[.int .i64 a0_0, .bool a0_1, .int .i64 a0_2, .int .i64 a0_3, .int .i64 a0_4, .int .i64 a0_5] 29 (0, 0))) ∧ Aside0 (Below w.heap.size w wc))
 case first =>
  have H := dk.out; clear dk; replace H := Option.bind_eq_some_iff.mp H; obtain ⟨bF, A60, H⟩ := H; (try dsimp only at H); have A6 := Aside0.mk A60; clear A60
  by_cases c7 : bF = true
  ·subst c7
   rw [if_pos rfl] at H; (try dsimp only at H); have H' := Aside0.mk H; clear H; obtain ⟨bp, bq, br, bs, bt, bB⟩ := c6e bc; obtain ⟨bu, bv, bw, bx, bz, bC⟩ := z6_ bc
   go_wp2_with (first | ((with_reducible refine gate_callee (f := 11) rfl ?_); refine goesM (some 9) rfl rfl Try.func11 (by kernel_rfl) rfl #[.agg #[.int .i64 a0_0, .bool a0_1, .int .i64 a0_2, .int .i64 a0_3, .int .i64 a0_4, .int .i64 a0_5]] rfl ?_; (with_reducible refine (spec_WordOk.calls k a0_0 a0_1 a0_2 a0_3 a0_4 a0_5 true _ A6.out).mono ?_); rintro e w9 ⟨rfl, hb⟩; refine ⟨_, rfl, ?_⟩; replace bc := nblk bc hb; replace HB := nbs HB hb; (try clear hb); obtain ⟨bH, bI, bJ, bK, bL, b4⟩ := c6e bc; obtain ⟨bM, bN, bO, bP, bQ, b5⟩ := z6_ bc))
   go_meet
   case rel => exact ⟨_, (!a0_1), (by first | rfl | (simp; done) | (simp [*]; done)), H', ⟨by first | omega | exact Nat.le_refl _⟩, ⟨nb bc⟩, ⟨nbe HB⟩⟩
  ·replace c7 := Bool.eq_false_iff.mpr c7
   subst c7; rw [if_neg (show ¬ (false = true) by decide)] at H; (try dsimp only at H); have H' := Aside0.mk H; clear H; obtain ⟨bS, bT, bU, bV, bW, bX⟩ := c6e bc; obtain ⟨bY, bZ, b0, b1, b2, b3⟩ := z6_ bc
   go_wp2_with (first | ((with_reducible refine gate_callee (f := 11) rfl ?_); refine goesM (some 9) rfl rfl Try.func11 (by kernel_rfl) rfl #[.agg #[.int .i64 a0_0, .bool a0_1, .int .i64 a0_2, .int .i64 a0_3, .int .i64 a0_4, .int .i64 a0_5]] rfl ?_; (with_reducible refine (spec_WordOk.calls k a0_0 a0_1 a0_2 a0_3 a0_4 a0_5 false _ A6.out).mono ?_); rintro e dF ⟨rfl, hb⟩; refine ⟨_, rfl, ?_⟩; replace bc := nblk bc hb; replace HB := nbs HB hb; (try clear hb)))
   go_meet
   case rel => exact ⟨_, (true), (by first | rfl | (simp; done) | (simp [*]; done)), H', ⟨by first | omega | exact Nat.le_refl _⟩, ⟨nb bc⟩, ⟨nbe HB⟩⟩
 case rest =>
  clear dk; try clear c1
  try clear c2
  try clear p2
  try clear c7
  try clear c11
  try clear bH
  try clear bI
  try clear bJ
  try clear bK
  try clear bL
  try clear b4
  try clear bS
  try clear bT
  try clear bU
  try clear bV
  try clear bW
  try clear bX
  try clear bp
  try clear bq
  try clear br
  try clear bs
  try clear bt
  try clear bB
  try clear bM
  try clear bN
  try clear bO
  try clear bP
  try clear bQ
  try clear b5
  try clear bY
  try clear bZ
  try clear b0
  try clear b1
  try clear b2
  try clear b3
  try clear bu
  try clear bv
  try clear bw
  try clear bx
  try clear bz
  try clear bC
  obtain ⟨kq, b7, rfl, HA, g3, bc, HB⟩ := hcut
  cases kq with
  | zero => exact absurd HA.out (by simp [spec_Try.j0])
  | succ kj3 =>
   have H := HA.out; clear HA; simp only [spec_Try.j0] at H
   by_cases c13 : b7 = true
   ·subst c13
    rw [if_pos rfl] at H; (try dsimp only at H); obtain rfl := Option.some.inj H; go_wp2
    go_ret
    exact ⟨er_, nbe HB⟩
   ·replace c13 := Bool.eq_false_iff.mpr c13
    subst c13; rw [if_neg (show ¬ (false = true) by decide)] at H; (try dsimp only at H)
    by_cases c14 : a0_5 = 0
    ·rw [if_pos c14] at H
     have c14b0 : (a0_5 == 0) = true := beq_iff_eq.mpr c14; have c14b1 : (a0_5 != 0) = false := bne_eq_false_iff_eq.mpr c14; clear c14
     by_cases c15 : (Go.bits .and .i64 a0_4 a2) = a2
     ·rw [if_pos c15] at H
      have c15b0 : ((Go.bits .and .i64 a0_4 a2) == a2) = true := beq_iff_eq.mpr c15; have c15b1 : ((Go.bits .and .i64 a0_4 a2) != a2) = false := bne_eq_false_iff_eq.mpr c15; clear c15
      by_cases c16 : a1 < a0_2
      ·rw [if_pos c16] at H
       have c16b0 : decide (a1 < a0_2) = true := decide_eq_true c16; clear c16; obtain rfl := Option.some.inj H; obtain ⟨dG, dH, dI, dJ, dK, dL⟩ := c6e bc; obtain ⟨dM, dN, dO, dP, dQ, dR⟩ := z6_ bc; go_wp2
       go_ret
       exact ⟨er_, nbe HB⟩
      ·rw [if_neg c16] at H
       have c16b0 : decide (a1 < a0_2) = false := decide_eq_false c16; clear c16
       by_cases c18 : a1 ≥ a0_3
       ·rw [if_pos c18] at H
        have c18b0 : decide (a0_3 ≤ a1) = true := decide_eq_true c18; clear c18; obtain rfl := Option.some.inj H; obtain ⟨er, es, et, eu, ev, ew⟩ := c6e bc; obtain ⟨ex, ey, ez, eA, eB, eC⟩ := z6_ bc; go_wp2
        go_ret
        exact ⟨er_, nbe HB⟩
       ·rw [if_neg c18] at H
        have c18b0 : decide (a0_3 ≤ a1) = false := decide_eq_false c18; clear c18; obtain rfl := Option.some.inj H; obtain ⟨eI, eJ, eK, eL, eM, eN⟩ := c6e bc; obtain ⟨eO, eP, eQ, eR, eS, eT⟩ := z6_ bc; go_wp2
        go_ret
        exact ⟨er_, nbe HB⟩
     ·rw [if_neg c15] at H
      have c15b0 : ((Go.bits .and .i64 a0_4 a2) == a2) = false := beq_eq_false_iff_ne.mpr c15; have c15b1 : ((Go.bits .and .i64 a0_4 a2) != a2) = true := bne_iff_ne.mpr c15; obtain rfl := Option.some.inj H; obtain ⟨g4, g5, g6, g7, g8, g9⟩ := c6e bc; obtain ⟨ha, hc, hd, hf, hh, hj⟩ := z6_ bc; go_wp2
      go_ret
      exact ⟨er_, nbe HB⟩
    ·rw [if_neg c14] at H
     have c14b0 : (a0_5 == 0) = false := beq_eq_false_iff_ne.mpr c14; have c14b1 : (a0_5 != 0) = true := bne_iff_ne.mpr c14; obtain rfl := Option.some.inj H; obtain ⟨hl, hm, hn, ho, hp, hq⟩ := c6e bc; obtain ⟨hr, hs, ht, hu, hv, hw⟩ := z6_ bc; go_wp2
     go_ret
     exact ⟨er_, nbe HB⟩
/-! ### spec_Sets: function 26 -/
def spec_Sets.f (a0_0 : Int) (a0_1 : Int) (a0_2 : Int) (a0_3 : Int) (a0_4 : Int) : Option (Int) := (spec_l6Has.f a0_0).bind fun bm => (if (Go.bits .and .i64 bm 1) = 0 then (some (-1)) else (some a0_1))
set_option maxHeartbeats 8000000 in
set_option maxRecDepth 100000 in
theorem spec_Sets.calls (a0_0 : Int) (a0_1 : Int) (a0_2 : Int) (a0_3 : Int) (a0_4 : Int) (r : Int) (w : World) (h : spec_Sets.f a0_0 a0_1 a0_2 a0_3 a0_4 = some r) :
  Calls Try.prog 26 #[.agg #[.int .i64 a0_0, .int .i64 a0_1, .int .i64 a0_2, .int .i64 a0_3, .int .i64 a0_4]] w fun e w' => e = .returned (.int .i64 r) ∧ Below w.heap.size w w' := by
 have hu25 := Try.underlying25; have H := h; clear h; unfold spec_Sets.f at H; (try dsimp only at H); replace H := Option.bind_eq_some_iff.mp H; obtain ⟨bm, A20, H⟩ := H; (try dsimp only at H); have A2 := Aside0.mk A20; clear A20
 by_cases c3 : (Go.bits .and .i64 bm 1) = 0
 ·rw [if_pos c3] at H
  have c3b0 : ((Go.bits .and .i64 bm 1) == 0) = true := beq_iff_eq.mpr c3; have c3b1 : ((Go.bits .and .i64 bm 1) != 0) = false := bne_eq_false_iff_eq.mpr c3; clear c3; obtain rfl := Option.some.inj H
  go_enter Try.func26, Try.ntmps26
  go_wp2_with (first | (go_at_call 55; (with_reducible refine dmn (spec_l6Has.calls (h := A2.out) (w := _)) ?_); intro x1 hb1 hc; have hw := dsz (n := w.heap.size + 1) hb1; have z := dl1 hw))
  go_ret; exact ⟨er_, dfi⟩
 ·rw [if_neg c3] at H
  have c3b0 : ((Go.bits .and .i64 bm 1) == 0) = false := beq_eq_false_iff_ne.mpr c3; have c3b1 : ((Go.bits .and .i64 bm 1) != 0) = true := bne_iff_ne.mpr c3; obtain rfl := Option.some.inj H
  go_enter Try.func26, Try.ntmps26
  go_wp2_with (first | (go_at_call 55; (with_reducible refine dmn (spec_l6Has.calls (h := A2.out) (w := _)) ?_); intro x1 hb1 hc; have hw := dsz (n := w.heap.size + 1) hb1; have z := dl1 hw))
  go_ret; exact ⟨er_, dfi⟩
/-! ### spec_Bare: function 73 -/
def spec_Bare.f (a0_0 : Int) (a0_1 : Bool) (a0_2 : Int) (a0_3 : Int) (a0_4 : Int) (a0_5 : Int) : Option (Int × Bool × Int × Int × Int × Int) := (spec_Plain.f a0_0).bind fun bk => (some (bk.1, bk.2.1, bk.2.2.1, bk.2.2.2.1, bk.2.2.2.2.1, bk.2.2.2.2.2))
set_option maxHeartbeats 8000000 in
set_option maxRecDepth 100000 in
theorem spec_Bare.calls (a0_0 : Int) (a0_1 : Bool) (a0_2 : Int) (a0_3 : Int) (a0_4 : Int) (a0_5 : Int) (r1 : Int) (r2 : Bool) (r3 : Int) (r4 : Int) (r5 : Int) (r6 : Int) (w : World) (h : spec_Bare.f a0_0 a0_1 a0_2 a0_3 a0_4 a0_5 = some (r1, r2, r3, r4, r5, r6)) :
  Calls Try.prog 73 #[.agg #[.int .i64 a0_0, .bool a0_1, .int .i64 a0_2, .int .i64 a0_3, .int .i64 a0_4, .int .i64 a0_5]] w fun e w' => e = .returned (.agg #[.int .i64 r1, .bool r2, .int .i64 r3, .int .i64 r4, .int .i64 r5, .int .i64 r6]) ∧ Below w.heap.size w w' := by
 have hu29 := Try.underlying29; have H := h; clear h; unfold spec_Bare.f at H; (try dsimp only at H); replace H := Option.bind_eq_some_iff.mp H; obtain ⟨⟨dl, dm, dn, dp, dq, dr⟩, A20, H⟩ := H; (try dsimp only at H); have A2 := Aside0.mk A20; clear A20; simp only [Option.some.injEq, Prod.mk.injEq] at H; obtain ⟨rfl, rfl, rfl, rfl, rfl, rfl⟩ := H
 go_enter Try.func73, Try.ntmps73
 go_wp2_with (first | (go_at_call 40; (with_reducible refine dmn (spec_Plain.calls (h := A2.out) (w := _)) ?_); intro x1 hb1 hc; have hw := dsz (n := w.heap.size + 1 + 1) hb1; have z := dl2 hw))
 refine bodyPost_ret (drc rfl _ _ rfl (by go_simp; rfl)) rfl ?_; exact ⟨rfl, dfi⟩
/-! ### spec_Weaken: function 56 -/
def spec_Weaken.f (k : Nat) (a0_0 : Int) (a0_1 : Bool) (a0_2 : Int) (a0_3 : Int) (a0_4 : Int) (a0_5 : Int) (a1 : Int) : Option (Int × Bool × Int × Int × Int × Int) := (spec_l4Open.f k a0_0 a0_1 a0_2 a0_3 a0_4 a0_5).bind fun bG => (if bG = true then (some (a0_0, a0_1, a0_2, a0_3, Go.bits .and .i64 a0_4 (Go.bits .and .i64 a1 63), a0_5)) else ((spec_Bare.f a0_0 a0_1 a0_2 a0_3 a0_4 a0_5).bind fun bb => (some (bb.1, bb.2.1, bb.2.2.1, bb.2.2.2.1, bb.2.2.2.2.1, bb.2.2.2.2.2))))
theorem spec_Weaken.mono : ∀ a0 a1 a2 a3 a4 a5 a6 k, LeO (spec_Weaken.f k a0 a1 a2 a3 a4 a5 a6) (spec_Weaken.f (k + 1) a0 a1 a2 a3 a4 a5 a6) := by
 intro a0 a1 a2 a3 a4 a5 a6 k
 unfold spec_Weaken.f
 repeat' first
   | (with_reducible exact spec_l4Open.mono _ _ _ _ _ _ _)
   | (with_reducible exact LeO.refl _)
   | (with_reducible exact LeO.none _)
   | (with_reducible refine LeO.ite ?_ ?_)
   | (with_reducible refine LeO.bind ?_ (fun _ => ?_))
   | exact spec_l4Open.mono _ _ _ _ _ _ _
   | exact LeO.none _
   | refine LeO.ite ?_ ?_
   | refine LeO.bind ?_ (fun _ => ?_)
set_option maxHeartbeats 8000000 in
set_option maxRecDepth 100000 in
theorem spec_Weaken.calls (k : Nat) (a0_0 : Int) (a0_1 : Bool) (a0_2 : Int) (a0_3 : Int) (a0_4 : Int) (a0_5 : Int) (a1 : Int) (r1 : Int) (r2 : Bool) (r3 : Int) (r4 : Int) (r5 : Int) (r6 : Int) (w : World) (h : spec_Weaken.f k a0_0 a0_1 a0_2 a0_3 a0_4 a0_5 a1 = some (r1, r2, r3, r4, r5, r6)) :
  Calls Try.prog 56 #[.agg #[.int .i64 a0_0, .bool a0_1, .int .i64 a0_2, .int .i64 a0_3, .int .i64 a0_4, .int .i64 a0_5], .int .i64 a1] w fun e w' => e = .returned (.agg #[.int .i64 r1, .bool r2, .int .i64 r3, .int .i64 r4, .int .i64 r5, .int .i64 r6]) ∧ Below w.heap.size w w' := by
 have hu29 := Try.underlying29; have H := h; clear h; unfold spec_Weaken.f at H; (try dsimp only at H); replace H := Option.bind_eq_some_iff.mp H; obtain ⟨bG, A30, H⟩ := H; (try dsimp only at H); have A3 := Aside0.mk A30; clear A30
 by_cases c4 : bG = true
 ·subst c4
  rw [if_pos rfl] at H; (try dsimp only at H); simp only [Option.some.injEq, Prod.mk.injEq] at H; obtain ⟨rfl, rfl, rfl, rfl, rfl, rfl⟩ := H
  go_enter Try.func56, Try.ntmps56
  go_wp2_with (first | (go_at_call 54; (with_reducible refine dmn (spec_l4Open.calls (h := A3.out) (w := _)) ?_); intro x1 hb1 hc; have hw := dsz (n := w.heap.size + 1 + 1) hb1; have z := dl2 hw))
  refine bodyPost_ret (drc rfl _ _ rfl (by go_simp; rfl)) rfl ?_; exact ⟨rfl, dfi⟩
 ·replace c4 := Bool.eq_false_iff.mpr c4
  subst c4; rw [if_neg (show ¬ (false = true) by decide)] at H; (try dsimp only at H); replace H := Option.bind_eq_some_iff.mp H; obtain ⟨⟨du, dv, dw, dx, dy, dz⟩, A120, H⟩ := H; (try dsimp only at H); have A12 := Aside0.mk A120; clear A120; simp only [Option.some.injEq, Prod.mk.injEq] at H; obtain ⟨rfl, rfl, rfl, rfl, rfl, rfl⟩ := H
  go_enter Try.func56, Try.ntmps56
  go_wp2_with (first | (go_at_call 54; (with_reducible refine dmn (spec_l4Open.calls (h := A3.out) (w := _)) ?_); intro x1 hb1 hc; have hw := dsz (n := w.heap.size + 1 + 1) hb1; have z := dl2 hw) | (go_at_call 73; (with_reducible refine dmn (spec_Bare.calls (h := A12.out) (w := _)) ?_); intro x2 hb2 hc; have hw := dsz (n := w.heap.size + 1 + 1) hb2; have z := dl2 hw))
  refine bodyPost_ret (drc rfl _ _ rfl (by go_simp; rfl)) rfl ?_; exact ⟨rfl, dfi⟩
end Go.Proofs.Ytpcladboobfkhaa.PFnWork
