-- Written by a program of this session (wip/patch.py turns a copy of the kit's print): the functions that the law reaches, and their walks.
import Derived.Test.YtbpalnplcgmjjaaPFnExactWritex0
import Derived.Test.YtbpalnplcgmjjaaPFnExactWritex1
import Derived.Test.YtbpalnplcgmjjaaCFnExactWrite
namespace Go.Proofs.Ytbpalnplcgmjjaa.PFnExactWrite
open Go.RowKit Go.Proofs.YtbpalnplcgmjjaaW.PrintWords Go.Proofs.YtbpalnplcgmjjaaW.PrintLast Go.Proofs.YtbpalnplcgmjjaaW.PrintMore Go.Proofs.YtbpalnplcgmjjaaW.Mine
attribute [local go_sem] max2_int min2_int max_two min_two max_three min_three max_four min_four   -- for this text's walks alone
set_option linter.unusedVariables false
set_option linter.unusedSimpArgs false

attribute [local go_sem high] eqA37
/-! ### laws_szWordS: function 12 -/
def laws_szWordS.f (l0 : List (S29)) (a1 : Int) : Option (Int) := if (wrap64 (a1 - (l0.length : Int))) < 0 then (some (-1)) else (some (wrap64 (a1 - (l0.length : Int))))
set_option maxHeartbeats 8000000 in
set_option maxRecDepth 100000 in
theorem laws_szWordS.calls (A0 : Option Addr) (c0 : Nat) (l0 : List (S29)) (a1 : Int) (r : Int) (w : World) (hr0 : Kd.C k29 w A0 l0.length l0) (hc0 : l0.length ≤ c0) (h : laws_szWordS.f l0 a1 = some r) :
  Calls Try.prog 12 #[.slice A0 l0.length c0, .int .i64 a1] w fun e w' => e = .returned (.int .i64 r) ∧ Drawn0 w w' := by
 have d3 := Aside0.mk hr0; have d4 := Aside0.mk hc0; clear hr0 hc0; have H : (if (wrap64 (a1 - (l0.length : Int))) < 0 then (some (-1)) else (some (wrap64 (a1 - (l0.length : Int))))) = some r := h; clear h
 by_cases c3 : (wrap64 (a1 - (l0.length : Int))) < 0
 ·rw [if_pos c3] at H
  have c3b0 : decide ((wrap64 (a1 - (l0.length : Int))) < 0) = true := decide_eq_true c3; clear c3; obtain rfl := Option.some.inj H
  go_enter Try.func12, Try.ntmps12
  go_wp2
  go_ret
  exact ⟨by first | rfl | (simp; done) | (simp [*]; done), by repeat (first | exact Drawn0.refl _ | apply Drawn0.step)⟩
 ·rw [if_neg c3] at H
  have c3b0 : decide ((wrap64 (a1 - (l0.length : Int))) < 0) = false := decide_eq_false c3; clear c3; obtain rfl := Option.some.inj H
  go_enter Try.func12, Try.ntmps12
  go_wp2
  go_ret
  exact ⟨by first | rfl | (simp; done) | (simp [*]; done), by repeat (first | exact Drawn0.refl _ | apply Drawn0.step)⟩

/-! ### laws_szBoolS: function 13 -/
def laws_szBoolS.f (l0 : List Bool) (a1 : Int) : Option (Int) := if (wrap64 (a1 - (l0.length : Int))) < 0 then (some (-1)) else (some (wrap64 (a1 - (l0.length : Int))))
set_option maxHeartbeats 8000000 in
set_option maxRecDepth 100000 in
theorem laws_szBoolS.calls (A0 : Option Addr) (c0 : Nat) (l0 : List Bool) (a1 : Int) (r : Int) (w : World) (hr0 : Kd.C Kd.bool w A0 l0.length l0) (hc0 : l0.length ≤ c0) (h : laws_szBoolS.f l0 a1 = some r) :
  Calls Try.prog 13 #[.slice A0 l0.length c0, .int .i64 a1] w fun e w' => e = .returned (.int .i64 r) ∧ Drawn0 w w' := by
 have d3 := Aside0.mk hr0; have d4 := Aside0.mk hc0; clear hr0 hc0; have H : (if (wrap64 (a1 - (l0.length : Int))) < 0 then (some (-1)) else (some (wrap64 (a1 - (l0.length : Int))))) = some r := h; clear h
 by_cases c3 : (wrap64 (a1 - (l0.length : Int))) < 0
 ·rw [if_pos c3] at H
  have c3b0 : decide ((wrap64 (a1 - (l0.length : Int))) < 0) = true := decide_eq_true c3; clear c3; obtain rfl := Option.some.inj H
  go_enter Try.func13, Try.ntmps13
  go_wp2
  go_ret
  exact ⟨by first | rfl | (simp; done) | (simp [*]; done), by repeat (first | exact Drawn0.refl _ | apply Drawn0.step)⟩
 ·rw [if_neg c3] at H
  have c3b0 : decide ((wrap64 (a1 - (l0.length : Int))) < 0) = false := decide_eq_false c3; clear c3; obtain rfl := Option.some.inj H
  go_enter Try.func13, Try.ntmps13
  go_wp2
  go_ret
  exact ⟨by first | rfl | (simp; done) | (simp [*]; done), by repeat (first | exact Drawn0.refl _ | apply Drawn0.step)⟩

/-! ### laws_szMemory: function 4 -/
def laws_szMemory.f (l0_0 : List (S29)) (l0_1 : List Bool) (a1 : Int) : Option (Int) := (laws_szWordS.f l0_0 a1).bind fun bg => (if bg < 0 then (some (-1)) else ((laws_szBoolS.f l0_1 bg).bind fun bj => (if bj < 0 then (some (-1)) else (some bj))))
set_option maxHeartbeats 8000000 in
set_option maxRecDepth 100000 in
theorem laws_szMemory.calls (A0_0 : Option Addr) (c0_0 : Nat) (l0_0 : List (S29)) (A0_1 : Option Addr) (c0_1 : Nat) (l0_1 : List Bool) (a1 : Int) (r : Int) (w : World) (hr0_0 : Kd.C k29 w A0_0 l0_0.length l0_0) (hc0_0 : l0_0.length ≤ c0_0) (hr0_1 : Kd.C Kd.bool w A0_1 l0_1.length l0_1) (hc0_1 : l0_1.length ≤ c0_1) (h : laws_szMemory.f l0_0 l0_1 a1 = some r) :
  Calls Try.prog 4 #[.agg #[.slice A0_0 l0_0.length c0_0, .slice A0_1 l0_1.length c0_1], .int .i64 a1] w fun e w' => e = .returned (.int .i64 r) ∧ Below w.heap.size w w' := by
 have hu25 := Try.underlying25; have di := Aside0.mk hr0_0; have dj := Aside0.mk hc0_0; clear hr0_0 hc0_0; have dC := Aside0.mk hr0_1; have dD := Aside0.mk hc0_1; clear hr0_1 hc0_1; have HB := Aside0.mk (Below.refl w.heap.size w); have H : ((laws_szWordS.f l0_0 a1).bind fun bg => (if bg < 0 then (some (-1)) else ((laws_szBoolS.f l0_1 bg).bind fun bj => (if bj < 0 then (some (-1)) else (some bj))))) = some r := h; clear h; replace H := Option.bind_eq_some_iff.mp H; obtain ⟨bg, A30, H⟩ := H; replace H : (if bg < 0 then (some (-1)) else ((laws_szBoolS.f l0_1 bg).bind fun bj => (if bj < 0 then (some (-1)) else (some bj)))) = some r := H; have A3 := Aside0.mk A30; clear A30
 by_cases c4 : bg < 0
 ·rw [if_pos c4] at H
  have c4b0 : decide (bg < 0) = true := decide_eq_true c4; clear c4; obtain rfl := Option.some.inj H
  go_enter Try.func4, Try.ntmps4
  go_wp2_with (first | ((with_reducible refine gate_dst (N := 2) rfl ?_); refine bxe 2 #[.slice A0_0 l0_0.length c0_0, .slice A0_1 l0_1.length c0_1] 25 ?_; intro dE hg w5 hbox hb; have bC := hbox; have dF := nge HB hg; have dG := nge HB hg; replace HB := nbs HB hb; clear hb hbox hg; obtain ⟨ep, er⟩ := c2e bC; obtain ⟨es, et⟩ := z2_ bC) | ((with_reducible refine gate_callee (f := 12) rfl ?_); refine goesM (some 8) rfl rfl Try.func12 (by kernel_rfl) rfl #[.slice A0_0 l0_0.length c0_0, .int .i64 a1] rfl ?_; (with_reducible refine (laws_szWordS.calls _ _ l0_0 a1 bg _ ?side1 ?side2 A3.out).mono ?_); (case side1 => exact nCb di HB); (case side2 => exact dj.out); rintro e w' ⟨rfl, ⟨nd, rfl⟩⟩; refine ⟨_, rfl, ?_⟩))
  go_ret
  exact ⟨er_, nbe HB⟩
 ·rw [if_neg c4] at H
  have c4b0 : decide (bg < 0) = false := decide_eq_false c4; clear c4; replace H := Option.bind_eq_some_iff.mp H; obtain ⟨bj, A70, H⟩ := H; replace H : (if bj < 0 then (some (-1)) else (some bj)) = some r := H; have A7 := Aside0.mk A70; clear A70
  by_cases c8 : bj < 0
  ·rw [if_pos c8] at H
   have c8b0 : decide (bj < 0) = true := decide_eq_true c8; clear c8; obtain rfl := Option.some.inj H
   go_enter Try.func4, Try.ntmps4
   go_wp2_with (first | ((with_reducible refine gate_dst (N := 2) rfl ?_); refine bxe 2 #[.slice A0_0 l0_0.length c0_0, .slice A0_1 l0_1.length c0_1] 25 ?_; intro dE hg w9 hbox hb; have bC := hbox; have dF := nge HB hg; have dG := nge HB hg; replace HB := nbs HB hb; clear hb hbox hg; obtain ⟨d5, d6⟩ := c2e bC; obtain ⟨d7, d8⟩ := z2_ bC) | ((with_reducible refine gate_callee (f := 12) rfl ?_); refine goesM (some 8) rfl rfl Try.func12 (by kernel_rfl) rfl #[.slice A0_0 l0_0.length c0_0, .int .i64 a1] rfl ?_; (with_reducible refine (laws_szWordS.calls _ _ l0_0 a1 bg _ ?side1 ?side2 A3.out).mono ?_); (case side1 => exact nCb di HB); (case side2 => exact dj.out); rintro e w' ⟨rfl, ⟨nd, rfl⟩⟩; refine ⟨_, rfl, ?_⟩) | ((with_reducible refine gate_callee (f := 13) rfl ?_); refine goesM (some 14) rfl rfl Try.func13 (by kernel_rfl) rfl #[.slice A0_1 l0_1.length c0_1, .int .i64 bg] rfl ?_; (with_reducible refine (laws_szBoolS.calls _ _ l0_1 bg bj _ ?side1 ?side2 A7.out).mono ?_); (case side1 => repeat (first | exact (Kd.C_below dC.out (nbe HB)) | (with_reducible refine Kd.C_alloc ?_ _) | (with_reducible refine Kd.C_drewN ?_ _) | (with_reducible refine Kd.C_drew ?_))); (case side2 => exact dD.out); rintro e w' ⟨rfl, ⟨nd, rfl⟩⟩; refine ⟨_, rfl, ?_⟩))
   go_ret
   exact ⟨er_, nbe HB⟩
  ·rw [if_neg c8] at H
   have c8b0 : decide (bj < 0) = false := decide_eq_false c8; clear c8; obtain rfl := Option.some.inj H
   go_enter Try.func4, Try.ntmps4
   go_wp2_with (first | ((with_reducible refine gate_dst (N := 2) rfl ?_); refine bxe 2 #[.slice A0_0 l0_0.length c0_0, .slice A0_1 l0_1.length c0_1] 25 ?_; intro dE hg d9 hbox hb; have bC := hbox; have dF := nge HB hg; have dG := nge HB hg; replace HB := nbs HB hb; clear hb hbox hg; obtain ⟨ea, eb⟩ := c2e bC; obtain ⟨ec, ed⟩ := z2_ bC) | ((with_reducible refine gate_callee (f := 12) rfl ?_); refine goesM (some 8) rfl rfl Try.func12 (by kernel_rfl) rfl #[.slice A0_0 l0_0.length c0_0, .int .i64 a1] rfl ?_; (with_reducible refine (laws_szWordS.calls _ _ l0_0 a1 bg _ ?side1 ?side2 A3.out).mono ?_); (case side1 => exact nCb di HB); (case side2 => exact dj.out); rintro e w' ⟨rfl, ⟨nd, rfl⟩⟩; refine ⟨_, rfl, ?_⟩) | ((with_reducible refine gate_callee (f := 13) rfl ?_); refine goesM (some 14) rfl rfl Try.func13 (by kernel_rfl) rfl #[.slice A0_1 l0_1.length c0_1, .int .i64 bg] rfl ?_; (with_reducible refine (laws_szBoolS.calls _ _ l0_1 bg bj _ ?side1 ?side2 A7.out).mono ?_); (case side1 => repeat (first | exact (Kd.C_below dC.out (nbe HB)) | (with_reducible refine Kd.C_alloc ?_ _) | (with_reducible refine Kd.C_drewN ?_ _) | (with_reducible refine Kd.C_drew ?_))); (case side2 => exact dD.out); rintro e w' ⟨rfl, ⟨nd, rfl⟩⟩; refine ⟨_, rfl, ?_⟩))
   go_ret
   exact ⟨er_, nbe HB⟩

/-! ### spec_l1In: function 30 -/
def spec_l1In.f (a0 : Int) (a1 : Int) (a2 : Int) : Option (Bool) := if a0 ≥ a1 then (some (decide (a0 ≤ a2))) else (some false)
set_option maxHeartbeats 8000000 in
set_option maxRecDepth 100000 in
theorem spec_l1In.calls (a0 : Int) (a1 : Int) (a2 : Int) (r : Bool) (w : World) (h : spec_l1In.f a0 a1 a2 = some r) :
  Calls Try.prog 30 #[.int .i64 a0, .int .i64 a1, .int .i64 a2] w fun e w' => e = .returned (.bool r) ∧ Drawn0 w w' := by
 have H : (if a0 ≥ a1 then (some (decide (a0 ≤ a2))) else (some false)) = some r := h; clear h
 by_cases c4 : a0 ≥ a1
 ·rw [if_pos c4] at H
  have c4b0 : decide (a1 ≤ a0) = true := decide_eq_true c4; clear c4; obtain rfl := Option.some.inj H
  go_enter Try.func30, Try.ntmps30
  go_wp2
  go_ret
  exact ⟨by first | rfl | (simp; done) | (simp [*]; done), by repeat (first | exact Drawn0.refl _ | apply Drawn0.step)⟩
 ·rw [if_neg c4] at H
  have c4b0 : decide (a1 ≤ a0) = false := decide_eq_false c4; clear c4; obtain rfl := Option.some.inj H
  go_enter Try.func30, Try.ntmps30
  go_wp2
  go_ret
  exact ⟨by first | rfl | (simp; done) | (simp [*]; done), by repeat (first | exact Drawn0.refl _ | apply Drawn0.step)⟩

/-! ### spec_BoundsOk: function 50 -/
def spec_BoundsOk.f (a0 : Int) (a1 : Int) : Option (Bool) := (spec_l1In.f a0 0 4096).bind fun bM => (if bM = true then ((spec_l1In.f a1 0 4096).bind fun bu => (if bu = true then (some (decide (a0 ≤ a1))) else (some false))) else (some false))
set_option maxHeartbeats 8000000 in
set_option maxRecDepth 100000 in
theorem spec_BoundsOk.calls (a0 : Int) (a1 : Int) (r : Bool) (w : World) (h : spec_BoundsOk.f a0 a1 = some r) :
  Calls Try.prog 50 #[.int .i64 a0, .int .i64 a1] w fun e w' => e = .returned (.bool r) ∧ Drawn0 w w' := by
 have H : ((spec_l1In.f a0 0 4096).bind fun bM => (if bM = true then ((spec_l1In.f a1 0 4096).bind fun bu => (if bu = true then (some (decide (a0 ≤ a1))) else (some false))) else (some false))) = some r := h; clear h; replace H := Option.bind_eq_some_iff.mp H; obtain ⟨bM, A30, H⟩ := H; replace H : (if bM = true then ((spec_l1In.f a1 0 4096).bind fun bu => (if bu = true then (some (decide (a0 ≤ a1))) else (some false))) else (some false)) = some r := H; have A3 := Aside0.mk A30; clear A30
 by_cases c4 : bM = true
 ·subst c4
  have H1 : ((spec_l1In.f a1 0 4096).bind fun bu => (if bu = true then (some (decide (a0 ≤ a1))) else (some false))) = some r := by rw [if_pos rfl] at H; exact H
  clear H; have H := H1; clear H1; replace H := Option.bind_eq_some_iff.mp H; obtain ⟨bu, A50, H⟩ := H; replace H : (if bu = true then (some (decide (a0 ≤ a1))) else (some false)) = some r := H; have A5 := Aside0.mk A50; clear A50
  by_cases c6 : bu = true
  ·subst c6
   have H1 : (some (decide (a0 ≤ a1))) = some r := by rw [if_pos rfl] at H; exact H
   clear H; have H := H1; clear H1; obtain rfl := Option.some.inj H
   go_enter Try.func50, Try.ntmps50
   go_wp2_with (first | ((with_reducible refine gate_callee (f := 30) rfl ?_); refine goesM (some 6) rfl rfl Try.func30 (by kernel_rfl) rfl #[.int .i64 a0, .int .i64 0, .int .i64 4096] rfl ?_; (with_reducible refine (spec_l1In.calls a0 0 4096 true _ A3.out).mono ?_); rintro e w' ⟨rfl, ⟨nd, rfl⟩⟩; refine ⟨_, rfl, ?_⟩) | (go_at_call 30; (with_reducible refine (spec_l1In.calls a1 0 4096 true _ A5.out).mono ?_); rintro e w' ⟨rfl, ⟨nd, rfl⟩⟩))
   go_ret
   exact ⟨by first | rfl | (simp; done) | (simp [*]; done), by repeat (first | exact Drawn0.refl _ | apply Drawn0.step)⟩
  ·replace c6 := Bool.eq_false_iff.mpr c6
   subst c6; have H1 : (some false) = some r := by rw [if_neg (show ¬ (false = true) by decide)] at H; exact H
   clear H; have H := H1; clear H1; obtain rfl := Option.some.inj H
   go_enter Try.func50, Try.ntmps50
   go_wp2_with (first | ((with_reducible refine gate_callee (f := 30) rfl ?_); refine goesM (some 6) rfl rfl Try.func30 (by kernel_rfl) rfl #[.int .i64 a0, .int .i64 0, .int .i64 4096] rfl ?_; (with_reducible refine (spec_l1In.calls a0 0 4096 true _ A3.out).mono ?_); rintro e w' ⟨rfl, ⟨nd, rfl⟩⟩; refine ⟨_, rfl, ?_⟩) | (go_at_call 30; (with_reducible refine (spec_l1In.calls a1 0 4096 false _ A5.out).mono ?_); rintro e w' ⟨rfl, ⟨nd, rfl⟩⟩))
   go_ret
   exact ⟨by first | rfl | (simp; done) | (simp [*]; done), by repeat (first | exact Drawn0.refl _ | apply Drawn0.step)⟩
 ·replace c4 := Bool.eq_false_iff.mpr c4
  subst c4; have H1 : (some false) = some r := by rw [if_neg (show ¬ (false = true) by decide)] at H; exact H
  clear H; have H := H1; clear H1; obtain rfl := Option.some.inj H
  go_enter Try.func50, Try.ntmps50
  go_wp2_with (first | ((with_reducible refine gate_callee (f := 30) rfl ?_); refine goesM (some 6) rfl rfl Try.func30 (by kernel_rfl) rfl #[.int .i64 a0, .int .i64 0, .int .i64 4096] rfl ?_; (with_reducible refine (spec_l1In.calls a0 0 4096 false _ A3.out).mono ?_); rintro e w' ⟨rfl, ⟨nd, rfl⟩⟩; refine ⟨_, rfl, ?_⟩))
  go_ret
  exact ⟨by first | rfl | (simp; done) | (simp [*]; done), by repeat (first | exact Drawn0.refl _ | apply Drawn0.step)⟩

/-! ### spec_Pack: function 53 -/
def spec_Pack.l0 : Nat → Int → Int → Int → Option (Int × Int × Int × Bool)
 | 0, _, _, _ => none
 | k + 1, x0, x1, x6 => if x6 ≤ 6 then (if 0 ≤ x6 then (if (shr .i64 x0 x6) ≤ 63 then (if (shr .i64 (wrap64 ((wrap64 ((wrap64 (x1 - (shl .i64 (shr .i64 x0 x6) x6))) + (shl .i64 1 x6))) - 1)) x6) ≤ 63 then (some (x6, shr .i64 x0 x6, shr .i64 (wrap64 ((wrap64 ((wrap64 (x1 - (shl .i64 (shr .i64 x0 x6) x6))) + (shl .i64 1 x6))) - 1)) x6, true)) else (spec_Pack.l0 k x0 x1 (wrap64 (x6 + 1)))) else (spec_Pack.l0 k x0 x1 (wrap64 (x6 + 1)))) else (none)) else (some (0, 0, 0, false))
def spec_Pack.f (k : Nat) (a0 : Int) (a1 : Int) : Option (Int × Int × Int × Bool) := (spec_BoundsOk.f a0 a1).bind fun bN => (if bN = true then (spec_Pack.l0 k a0 a1 0) else (some (0, 0, 0, false)))
theorem spec_Pack.mono_l : ∀ k, (∀ y0 y1 y2, LeO (spec_Pack.l0 k y0 y1 y2) (spec_Pack.l0 (k + 1) y0 y1 y2))
 | 0 => fun _ _ _ r h => by simp [spec_Pack.l0] at h
 | k + 1 => by
  have ih0 := spec_Pack.mono_l k
  ·intro y0 y1 y2
   unfold spec_Pack.l0
   repeat' first
   | (with_reducible exact ih0 _ _ _)
   | (with_reducible exact LeO.refl _)
   | (with_reducible exact LeO.none _)
   | (with_reducible refine LeO.ite ?_ ?_)
   | (with_reducible refine LeO.bind ?_ (fun _ => ?_))
   | exact ih0 _ _ _
   | exact LeO.none _
   | refine LeO.ite ?_ ?_
   | refine LeO.bind ?_ (fun _ => ?_)
theorem spec_Pack.mono : ∀ a0 a1 k, LeO (spec_Pack.f k a0 a1) (spec_Pack.f (k + 1) a0 a1) := by
 intro a0 a1 k; have ih0 := spec_Pack.mono_l k
 unfold spec_Pack.f
 repeat' first
   | (with_reducible exact ih0 _ _ _)
   | (with_reducible exact LeO.refl _)
   | (with_reducible exact LeO.none _)
   | (with_reducible refine LeO.ite ?_ ?_)
   | (with_reducible refine LeO.bind ?_ (fun _ => ?_))
   | exact ih0 _ _ _
   | exact LeO.none _
   | refine LeO.ite ?_ ?_
   | refine LeO.bind ?_ (fun _ => ?_)
set_option maxHeartbeats 8000000 in
set_option maxRecDepth 100000 in
theorem spec_Pack.calls (k : Nat) (a0 : Int) (a1 : Int) (r1 : Int) (r2 : Int) (r3 : Int) (r4 : Bool) (w : World) (h : spec_Pack.f k a0 a1 = some (r1, r2, r3, r4)) :
  Calls Try.prog 53 #[.int .i64 a0, .int .i64 a1] w fun e w' => e = .returned (.tuple #[.agg #[.int .i64 r1, .int .i64 r2, .int .i64 r3], .bool r4]) ∧ Below w.heap.size w w' := by
 have hu69 := Try.underlying69; have HB := Aside0.mk (Below.refl w.heap.size w); have H : ((spec_BoundsOk.f a0 a1).bind fun bN => (if bN = true then (spec_Pack.l0 k a0 a1 0) else (some (0, 0, 0, false)))) = some (r1, r2, r3, r4) := h; clear h; replace H := Option.bind_eq_some_iff.mp H; obtain ⟨bN, A30, H⟩ := H; replace H : (if bN = true then (spec_Pack.l0 k a0 a1 0) else (some (0, 0, 0, false))) = some (r1, r2, r3, r4) := H; have A3 := Aside0.mk A30; clear A30
 by_cases c4 : bN = true
 ·subst c4
  have H1 : (spec_Pack.l0 k a0 a1 0) = some (r1, r2, r3, r4) := by rw [if_pos rfl] at H; exact H
  clear H; have H := H1; clear H1; have H' := Aside0.mk H; clear H
  go_enter Try.func53, Try.ntmps53
  go_wp2_with (first | ((with_reducible refine gate_dst (N := 4) rfl ?_); refine bxe 4 #[.int .i64 0, .int .i64 0, .int .i64 0] 69 ?_; intro bA hg w5 hbox hb; have bd := hbox; have bS := nge HB hg; have bT := nge HB hg; replace HB := nbs HB hb; clear hb hbox hg) | (go_at_call 50; (with_reducible refine (spec_BoundsOk.calls a0 a1 true _ A3.out).mono ?_); rintro e w' ⟨rfl, ⟨nd, rfl⟩⟩; (try first | exact ⟨rfl, _, World.drewN_drewN _ _ _⟩ | exact ⟨rfl, _, Eq.trans (World.drewN_drewN _ _ _) (congrArg (World.drewN _) (Nat.add_assoc _ _ _))⟩)))
  repeat (go_quiet (first | ((with_reducible refine gate_dst (N := 4) rfl ?_); refine bxe 4 #[.int .i64 0, .int .i64 0, .int .i64 0] 69 ?_; intro bA hg w5 hbox hb; have bd := hbox; have bS := nge HB hg; have bT := nge HB hg; replace HB := nbs HB hb; clear hb hbox hg) | (go_at_call 50; (with_reducible refine (spec_BoundsOk.calls a0 a1 true _ A3.out).mono ?_); rintro e w' ⟨rfl, ⟨nd, rfl⟩⟩; (try first | exact ⟨rfl, _, World.drewN_drewN _ _ _⟩ | exact ⟨rfl, _, Eq.trans (World.drewN_drewN _ _ _) (congrArg (World.drewN _) (Nat.add_assoc _ _ _))⟩))); try go_wp2_with (first | ((with_reducible refine gate_dst (N := 4) rfl ?_); refine bxe 4 #[.int .i64 0, .int .i64 0, .int .i64 0] 69 ?_; intro bA hg w5 hbox hb; have bd := hbox; have bS := nge HB hg; have bT := nge HB hg; replace HB := nbs HB hb; clear hb hbox hg) | (go_at_call 50; (with_reducible refine (spec_BoundsOk.calls a0 a1 true _ A3.out).mono ?_); rintro e w' ⟨rfl, ⟨nd, rfl⟩⟩; (try first | exact ⟨rfl, _, World.drewN_drewN _ _ _⟩ | exact ⟨rfl, _, Eq.trans (World.drewN_drewN _ _ _) (congrArg (World.drewN _) (Nat.add_assoc _ _ _))⟩))))
  go_loopg [6] k (fun kq v6 w' => ∃ (ba : Int) (b6 : Int) (b7 : Int) (b8 : Int), v6 = .int .i64 ba ∧ Aside0 (spec_Pack.l0 kq a0 a1 ba = some (r1, r2, r3, r4)) ∧ Aside0 (kq ≤ k) ∧ Aside0 (w'.heap[bA]? = some (.cells #[.int .i64 b6, .int .i64 b7, .int .i64 b8] 69 (0, 0))) ∧ Aside0 (Below w.heap.size w w'))
  case atStart => exact ⟨(0), (0), (0), (0), (by first | rfl | (simp; done) | (simp [*]; done)), H', ⟨Nat.le_refl _⟩, ⟨nb bd⟩, ⟨nbe HB⟩⟩
  case round =>
   clear H'; try clear p2
   try clear c4
   try clear c5
   obtain ⟨ba, b6, b7, b8, rfl, HA, b9, bd, HB⟩ := hrel
   cases gk with
   | zero => exact absurd HA.out (by simp [spec_Pack.l0])
   | succ k1 =>
    have H := HA.out; clear HA; simp only [spec_Pack.l0] at H
    by_cases c6 : ba ≤ 6
    ·rw [if_pos c6] at H
     have c6b0 : decide (ba ≤ 6) = true := decide_eq_true c6; clear c6
     by_cases c7 : 0 ≤ ba
     ·rw [if_pos c7] at H
      have c7b0 := eq_true c7; have c7b1 : decide (0 ≤ ba) = true := decide_eq_true c7; clear c7; obtain ⟨bf, bU⟩ : ∃ j_ : Int, (shr .i64 a0 ba) = j_ := ⟨_, rfl⟩; replace H : (if (bf) ≤ 63 then (if (shr .i64 (wrap64 ((wrap64 ((wrap64 (a1 - (shl .i64 (bf) ba))) + (shl .i64 1 ba))) - 1)) ba) ≤ 63 then (some (ba, bf, shr .i64 (wrap64 ((wrap64 ((wrap64 (a1 - (shl .i64 (bf) ba))) + (shl .i64 1 ba))) - 1)) ba, true)) else (spec_Pack.l0 k1 a0 a1 (wrap64 (ba + 1)))) else (spec_Pack.l0 k1 a0 a1 (wrap64 (ba + 1)))) = some (r1, r2, r3, r4) := by first | (rw [bU] at H; exact H) | (simp only [bU] at H ⊢; exact H)
      have eu : (a0 / 2 ^ min ba.toNat 64) = bf := bU; have ev : ba ≤ 64 → (a0 / 2 ^ ba.toNat) = bf := shr_small bU; have c9b0 := eq_true (of_decide_eq_true (by first | (with_reducible assumption) | assumption) : 0 ≤ ba); obtain ⟨bn, bV⟩ : ∃ j_ : Int, (shl .i64 (bf) ba) = j_ := ⟨_, rfl⟩; replace H : (if (bf) ≤ 63 then (if (shr .i64 (wrap64 ((wrap64 ((wrap64 (a1 - (bn))) + (shl .i64 1 ba))) - 1)) ba) ≤ 63 then (some (ba, bf, shr .i64 (wrap64 ((wrap64 ((wrap64 (a1 - (bn))) + (shl .i64 1 ba))) - 1)) ba, true)) else (spec_Pack.l0 k1 a0 a1 (wrap64 (ba + 1)))) else (spec_Pack.l0 k1 a0 a1 (wrap64 (ba + 1)))) = some (r1, r2, r3, r4) := by first | (rw [bV] at H; exact H) | (simp only [bV] at H ⊢; exact H)
      have ee : (IntKind.i64.wrap ((bf) * 2 ^ min ba.toNat 64)) = bn := bV; have ef : ba ≤ 64 → (IntKind.i64.wrap ((bf) * 2 ^ ba.toNat)) = bn := shl_small bV; have ew : (wrap64 ((bf) * 2 ^ min ba.toNat 64)) = bn := (i64_w _).symm.trans ee; have ex : ba ≤ 64 → (wrap64 ((bf) * 2 ^ ba.toNat)) = bn := fun h_ => (i64_w _).symm.trans (ef h_)
      have c11b0 := eq_true (of_decide_eq_true (by first | (with_reducible assumption) | assumption) : 0 ≤ ba); obtain ⟨bo, bW⟩ : ∃ j_ : Int, (shl .i64 1 ba) = j_ := ⟨_, rfl⟩; replace H : (if (bf) ≤ 63 then (if (shr .i64 (wrap64 ((wrap64 ((wrap64 (a1 - (bn))) + (bo))) - 1)) ba) ≤ 63 then (some (ba, bf, shr .i64 (wrap64 ((wrap64 ((wrap64 (a1 - (bn))) + (bo))) - 1)) ba, true)) else (spec_Pack.l0 k1 a0 a1 (wrap64 (ba + 1)))) else (spec_Pack.l0 k1 a0 a1 (wrap64 (ba + 1)))) = some (r1, r2, r3, r4) := by first | (rw [bW] at H; exact H) | (simp only [bW] at H ⊢; exact H)
      have dH : (IntKind.i64.wrap (1 * 2 ^ min ba.toNat 64)) = bo := bW; have dI : ba ≤ 64 → (IntKind.i64.wrap (1 * 2 ^ ba.toNat)) = bo := shl_small bW; have ey : (IntKind.i64.wrap (2 ^ min ba.toNat 64)) = bo := by have h_ := dH; rw [Int.one_mul] at h_; exact h_
      have ez : ba ≤ 64 → (IntKind.i64.wrap (2 ^ ba.toNat)) = bo := fun hle_ => by have h_ := dI hle_; rw [Int.one_mul] at h_; exact h_
      have eA : (wrap64 (1 * 2 ^ min ba.toNat 64)) = bo := (i64_w _).symm.trans dH; have eB : ba ≤ 64 → (wrap64 (1 * 2 ^ ba.toNat)) = bo := fun h_ => (i64_w _).symm.trans (dI h_)
      have c13b0 := eq_true (of_decide_eq_true (by first | (with_reducible assumption) | assumption) : 0 ≤ ba); obtain ⟨bD, bX⟩ : ∃ j_ : Int, (shr .i64 (wrap64 ((wrap64 ((wrap64 (a1 - (bn))) + (bo))) - 1)) ba) = j_ := ⟨_, rfl⟩; replace H : (if (bf) ≤ 63 then (if (bD) ≤ 63 then (some (ba, bf, bD, true)) else (spec_Pack.l0 k1 a0 a1 (wrap64 (ba + 1)))) else (spec_Pack.l0 k1 a0 a1 (wrap64 (ba + 1)))) = some (r1, r2, r3, r4) := by first | (rw [bX] at H; exact H) | (simp only [bX] at H ⊢; exact H)
      have eC : ((wrap64 ((wrap64 ((wrap64 (a1 - (bn))) + (bo))) - 1)) / 2 ^ min ba.toNat 64) = bD := bX; have eD : ba ≤ 64 → ((wrap64 ((wrap64 ((wrap64 (a1 - (bn))) + (bo))) - 1)) / 2 ^ ba.toNat) = bD := shr_small bX
      by_cases c15 : (bf) ≤ 63
      ·rw [if_pos c15] at H
       have c15b0 : decide ((bf) ≤ 63) = true := decide_eq_true c15; clear c15
       by_cases c16 : (bD) ≤ 63
       ·rw [if_pos c16] at H
        have c16b0 : decide ((bD) ≤ 63) = true := decide_eq_true c16; clear c16; simp only [Option.some.injEq, Prod.mk.injEq] at H; obtain ⟨rfl, rfl, rfl, rfl⟩ := H; obtain ⟨dJ, dK, dL⟩ := c3e bd; obtain ⟨dM, dN, dO⟩ := z3_ bd; go_wp2
        repeat (go_quiet (fail); try go_wp2)
        refine bodyPost_ret (results_ct rfl _ _ bA 69 #[.int .i64 ba, .int .i64 bf, .int .i64 bD] (0, 0) _ rfl (q3 bd) Try.underlying69 rfl (by kernel_rfl)) rfl ?_; exact ⟨by first | rfl | (simp [errW_none, errW_some] <;> rfl) | (simp only [← bU, ← bV, ← bW, ← bX]; first | rfl | (simp [errW_none, errW_some] <;> rfl)) | (simp [*, errW_none, errW_some] <;> rfl), nbe HB⟩
       ·rw [if_neg c16] at H
        have c16b0 : decide ((bD) ≤ 63) = false := decide_eq_false c16; clear c16; have H' := Aside0.mk H; clear H; go_wp2
        repeat (go_quiet (fail); try go_wp2)
        go_roundg k1
        case measure => have := b9.out; omega
        case rel => exact ⟨(wrap64 (ba + 1)), (b6), (b7), (b8), (by first | rfl | (simp; done) | (simp [*]; done)), H', ⟨by have := b9.out; omega⟩, ⟨nb bd⟩, ⟨nbe HB⟩⟩
      ·rw [if_neg c15] at H
       have c15b0 : decide ((bf) ≤ 63) = false := decide_eq_false c15; clear c15; have H' := Aside0.mk H; clear H; go_wp2
       repeat (go_quiet (fail); try go_wp2)
       go_roundg k1
       case measure => have := b9.out; omega
       case rel => exact ⟨(wrap64 (ba + 1)), (b6), (b7), (b8), (by first | rfl | (simp; done) | (simp [*]; done)), H', ⟨by have := b9.out; omega⟩, ⟨nb bd⟩, ⟨nbe HB⟩⟩
     ·rw [if_neg c7] at H
      exact absurd H (by simp)
    ·rw [if_neg c6] at H
     have c6b0 : decide (ba ≤ 6) = false := decide_eq_false c6; clear c6; simp only [Option.some.injEq, Prod.mk.injEq] at H; obtain ⟨rfl, rfl, rfl, rfl⟩ := H; obtain ⟨dk, dl, dm⟩ := c3e bd; obtain ⟨dn, dp, dq⟩ := z3_ bd; go_wp2
     repeat (go_quiet (fail); try go_wp2)
     refine bodyPost_ret (results_ct rfl _ _ bA 69 #[.int .i64 0, .int .i64 0, .int .i64 0] (0, 0) _ rfl (q3 bd) Try.underlying69 rfl (by kernel_rfl)) rfl ?_; exact ⟨er_, nbe HB⟩
 ·replace c4 := Bool.eq_false_iff.mpr c4
  subst c4; have H1 : (some (0, 0, 0, false)) = some (r1, r2, r3, r4) := by rw [if_neg (show ¬ (false = true) by decide)] at H; exact H
  clear H; have H := H1; clear H1; simp only [Option.some.injEq, Prod.mk.injEq] at H; obtain ⟨rfl, rfl, rfl, rfl⟩ := H
  go_enter Try.func53, Try.ntmps53
  go_wp2_with (first | ((with_reducible refine gate_dst (N := 4) rfl ?_); refine bxe 4 #[.int .i64 0, .int .i64 0, .int .i64 0] 69 ?_; intro bA hg bY hbox hb; have bd := hbox; have bS := nge HB hg; have bT := nge HB hg; replace HB := nbs HB hb; clear hb hbox hg) | (go_at_call 50; (with_reducible refine (spec_BoundsOk.calls a0 a1 false _ A3.out).mono ?_); rintro e w' ⟨rfl, ⟨nd, rfl⟩⟩; (try first | exact ⟨rfl, _, World.drewN_drewN _ _ _⟩ | exact ⟨rfl, _, Eq.trans (World.drewN_drewN _ _ _) (congrArg (World.drewN _) (Nat.add_assoc _ _ _))⟩); obtain ⟨bZ, b0, b1⟩ := c3e bd; obtain ⟨b2, b3, b4⟩ := z3_ bd))
  repeat (go_quiet (first | ((with_reducible refine gate_dst (N := 4) rfl ?_); refine bxe 4 #[.int .i64 0, .int .i64 0, .int .i64 0] 69 ?_; intro bA hg bY hbox hb; have bd := hbox; have bS := nge HB hg; have bT := nge HB hg; replace HB := nbs HB hb; clear hb hbox hg) | (go_at_call 50; (with_reducible refine (spec_BoundsOk.calls a0 a1 false _ A3.out).mono ?_); rintro e w' ⟨rfl, ⟨nd, rfl⟩⟩; (try first | exact ⟨rfl, _, World.drewN_drewN _ _ _⟩ | exact ⟨rfl, _, Eq.trans (World.drewN_drewN _ _ _) (congrArg (World.drewN _) (Nat.add_assoc _ _ _))⟩); obtain ⟨bZ, b0, b1⟩ := c3e bd; obtain ⟨b2, b3, b4⟩ := z3_ bd)); try go_wp2_with (first | ((with_reducible refine gate_dst (N := 4) rfl ?_); refine bxe 4 #[.int .i64 0, .int .i64 0, .int .i64 0] 69 ?_; intro bA hg bY hbox hb; have bd := hbox; have bS := nge HB hg; have bT := nge HB hg; replace HB := nbs HB hb; clear hb hbox hg) | (go_at_call 50; (with_reducible refine (spec_BoundsOk.calls a0 a1 false _ A3.out).mono ?_); rintro e w' ⟨rfl, ⟨nd, rfl⟩⟩; (try first | exact ⟨rfl, _, World.drewN_drewN _ _ _⟩ | exact ⟨rfl, _, Eq.trans (World.drewN_drewN _ _ _) (congrArg (World.drewN _) (Nat.add_assoc _ _ _))⟩); obtain ⟨bZ, b0, b1⟩ := c3e bd; obtain ⟨b2, b3, b4⟩ := z3_ bd)))
  refine bodyPost_ret (results_ct rfl _ _ bA 69 #[.int .i64 0, .int .i64 0, .int .i64 0] (0, 0) _ rfl (q3 bd) Try.underlying69 rfl (by kernel_rfl)) rfl ?_; exact ⟨er_, nbe HB⟩

/-! ### spec_l1Min: function 57 -/
def spec_l1Min.f (a0 : Int) (a1 : Int) : Option (Int) := if a0 < a1 then (some a0) else (some a1)
set_option maxHeartbeats 8000000 in
set_option maxRecDepth 100000 in
theorem spec_l1Min.calls (a0 : Int) (a1 : Int) (r : Int) (w : World) (h : spec_l1Min.f a0 a1 = some r) :
  Calls Try.prog 57 #[.int .i64 a0, .int .i64 a1] w fun e w' => e = .returned (.int .i64 r) ∧ Drawn0 w w' := by
 have H : (if a0 < a1 then (some a0) else (some a1)) = some r := h; clear h
 by_cases c3 : a0 < a1
 ·rw [if_pos c3] at H
  have c3b0 : decide (a0 < a1) = true := decide_eq_true c3; clear c3; obtain rfl := Option.some.inj H
  go_enter Try.func57, Try.ntmps57
  go_wp2
  go_ret
  exact ⟨by first | rfl | (simp; done) | (simp [*]; done), by repeat (first | exact Drawn0.refl _ | apply Drawn0.step)⟩
 ·rw [if_neg c3] at H
  have c3b0 : decide (a0 < a1) = false := decide_eq_false c3; clear c3; obtain rfl := Option.some.inj H
  go_enter Try.func57, Try.ntmps57
  go_wp2
  go_ret
  exact ⟨by first | rfl | (simp; done) | (simp [*]; done), by repeat (first | exact Drawn0.refl _ | apply Drawn0.step)⟩

/-! ### spec_Unpack: function 54 -/
def spec_Unpack.f (a0_0 : Int) (a0_1 : Int) (a0_2 : Int) : Option (Int × Int × Bool) := (spec_l1In.f a0_0 0 6).bind fun bO => (if bO = true then ((spec_l1In.f a0_1 0 63).bind fun bv => (if bv = true then ((spec_l1In.f a0_2 0 63).bind fun bk => (if bk = true then (if 0 ≤ a0_0 then ((spec_l1Min.f (shl .i64 (wrap64 (a0_1 + a0_2)) a0_0) 4096).bind fun bc => (some (shl .i64 a0_1 a0_0, bc, true))) else (none)) else (some (0, 0, false)))) else (some (0, 0, false)))) else (some (0, 0, false)))
set_option maxHeartbeats 8000000 in
set_option maxRecDepth 100000 in
theorem spec_Unpack.calls (a0_0 : Int) (a0_1 : Int) (a0_2 : Int) (r1 : Int) (r2 : Int) (r3 : Bool) (w : World) (h : spec_Unpack.f a0_0 a0_1 a0_2 = some (r1, r2, r3)) :
  Calls Try.prog 54 #[.agg #[.int .i64 a0_0, .int .i64 a0_1, .int .i64 a0_2]] w fun e w' => e = .returned (.tuple #[.int .i64 r1, .int .i64 r2, .bool r3]) ∧ Below w.heap.size w w' := by
 have hu69 := Try.underlying69; have HB := Aside0.mk (Below.refl w.heap.size w); have H : ((spec_l1In.f a0_0 0 6).bind fun bO => (if bO = true then ((spec_l1In.f a0_1 0 63).bind fun bv => (if bv = true then ((spec_l1In.f a0_2 0 63).bind fun bk => (if bk = true then (if 0 ≤ a0_0 then ((spec_l1Min.f (shl .i64 (wrap64 (a0_1 + a0_2)) a0_0) 4096).bind fun bc => (some (shl .i64 a0_1 a0_0, bc, true))) else (none)) else (some (0, 0, false)))) else (some (0, 0, false)))) else (some (0, 0, false)))) = some (r1, r2, r3) := h; clear h; replace H := Option.bind_eq_some_iff.mp H; obtain ⟨bO, A20, H⟩ := H; replace H : (if bO = true then ((spec_l1In.f a0_1 0 63).bind fun bv => (if bv = true then ((spec_l1In.f a0_2 0 63).bind fun bk => (if bk = true then (if 0 ≤ a0_0 then ((spec_l1Min.f (shl .i64 (wrap64 (a0_1 + a0_2)) a0_0) 4096).bind fun bc => (some (shl .i64 a0_1 a0_0, bc, true))) else (none)) else (some (0, 0, false)))) else (some (0, 0, false)))) else (some (0, 0, false))) = some (r1, r2, r3) := H; have A2 := Aside0.mk A20; clear A20
 by_cases c3 : bO = true
 ·subst c3
  have H1 : ((spec_l1In.f a0_1 0 63).bind fun bv => (if bv = true then ((spec_l1In.f a0_2 0 63).bind fun bk => (if bk = true then (if 0 ≤ a0_0 then ((spec_l1Min.f (shl .i64 (wrap64 (a0_1 + a0_2)) a0_0) 4096).bind fun bc => (some (shl .i64 a0_1 a0_0, bc, true))) else (none)) else (some (0, 0, false)))) else (some (0, 0, false)))) = some (r1, r2, r3) := by rw [if_pos rfl] at H; exact H
  clear H; have H := H1; clear H1; replace H := Option.bind_eq_some_iff.mp H; obtain ⟨bv, A40, H⟩ := H; replace H : (if bv = true then ((spec_l1In.f a0_2 0 63).bind fun bk => (if bk = true then (if 0 ≤ a0_0 then ((spec_l1Min.f (shl .i64 (wrap64 (a0_1 + a0_2)) a0_0) 4096).bind fun bc => (some (shl .i64 a0_1 a0_0, bc, true))) else (none)) else (some (0, 0, false)))) else (some (0, 0, false))) = some (r1, r2, r3) := H; have A4 := Aside0.mk A40; clear A40
  by_cases c5 : bv = true
  ·subst c5
   have H1 : ((spec_l1In.f a0_2 0 63).bind fun bk => (if bk = true then (if 0 ≤ a0_0 then ((spec_l1Min.f (shl .i64 (wrap64 (a0_1 + a0_2)) a0_0) 4096).bind fun bc => (some (shl .i64 a0_1 a0_0, bc, true))) else (none)) else (some (0, 0, false)))) = some (r1, r2, r3) := by rw [if_pos rfl] at H; exact H
   clear H; have H := H1; clear H1; replace H := Option.bind_eq_some_iff.mp H; obtain ⟨bk, A60, H⟩ := H; replace H : (if bk = true then (if 0 ≤ a0_0 then ((spec_l1Min.f (shl .i64 (wrap64 (a0_1 + a0_2)) a0_0) 4096).bind fun bc => (some (shl .i64 a0_1 a0_0, bc, true))) else (none)) else (some (0, 0, false))) = some (r1, r2, r3) := H; have A6 := Aside0.mk A60; clear A60
   by_cases c7 : bk = true
   ·subst c7
    have H1 : (if 0 ≤ a0_0 then ((spec_l1Min.f (shl .i64 (wrap64 (a0_1 + a0_2)) a0_0) 4096).bind fun bc => (some (shl .i64 a0_1 a0_0, bc, true))) else (none)) = some (r1, r2, r3) := by rw [if_pos rfl] at H; exact H
    clear H; have H := H1; clear H1
    by_cases c8 : 0 ≤ a0_0
    ·rw [if_pos c8] at H
     have c8b0 := eq_true c8; have c8b1 : decide (0 ≤ a0_0) = true := decide_eq_true c8; clear c8; obtain ⟨bL, bE⟩ : ∃ j_ : Int, (shl .i64 a0_1 a0_0) = j_ := ⟨_, rfl⟩; replace H : ((spec_l1Min.f (shl .i64 (wrap64 (a0_1 + a0_2)) a0_0) 4096).bind fun bc => (some (bL, bc, true))) = some (r1, r2, r3) := by first | (rw [bE] at H; exact H) | (simp only [bE] at H ⊢; exact H)
     (try rw [bE] at A2); (try rw [bE] at A4); (try rw [bE] at A6); have eg : (IntKind.i64.wrap (a0_1 * 2 ^ min a0_0.toNat 64)) = bL := bE; have eh : a0_0 ≤ 64 → (IntKind.i64.wrap (a0_1 * 2 ^ a0_0.toNat)) = bL := shl_small bE; have eE : (wrap64 (a0_1 * 2 ^ min a0_0.toNat 64)) = bL := (i64_w _).symm.trans eg; have eF : a0_0 ≤ 64 → (wrap64 (a0_1 * 2 ^ a0_0.toNat)) = bL := fun h_ => (i64_w _).symm.trans (eh h_)
     have c10b0 := eq_true (of_decide_eq_true (by first | (with_reducible assumption) | assumption) : 0 ≤ a0_0); obtain ⟨bF, bG⟩ : ∃ j_ : Int, (shl .i64 (wrap64 (a0_1 + a0_2)) a0_0) = j_ := ⟨_, rfl⟩; replace H : ((spec_l1Min.f (bF) 4096).bind fun bc => (some (bL, bc, true))) = some (r1, r2, r3) := by first | (rw [bG] at H; exact H) | (simp only [bG] at H ⊢; exact H)
     (try rw [bG] at A2); (try rw [bG] at A4); (try rw [bG] at A6); have ei : (IntKind.i64.wrap ((wrap64 (a0_1 + a0_2)) * 2 ^ min a0_0.toNat 64)) = bF := bG; have ej : a0_0 ≤ 64 → (IntKind.i64.wrap ((wrap64 (a0_1 + a0_2)) * 2 ^ a0_0.toNat)) = bF := shl_small bG; have eG : (wrap64 ((wrap64 (a0_1 + a0_2)) * 2 ^ min a0_0.toNat 64)) = bF := (i64_w _).symm.trans ei; have eH : a0_0 ≤ 64 → (wrap64 ((wrap64 (a0_1 + a0_2)) * 2 ^ a0_0.toNat)) = bF := fun h_ => (i64_w _).symm.trans (ej h_)
     replace H := Option.bind_eq_some_iff.mp H; obtain ⟨bc, A120, H⟩ := H; replace H : (some (bL, bc, true)) = some (r1, r2, r3) := H; have A12 := Aside0.mk A120; clear A120; simp only [Option.some.injEq, Prod.mk.injEq] at H; obtain ⟨rfl, rfl, rfl⟩ := H
     go_enter Try.func54, Try.ntmps54
     go_wp2_with (first | ((with_reducible refine gate_dst (N := 1) rfl ?_); refine bxe 1 #[.int .i64 a0_0, .int .i64 a0_1, .int .i64 a0_2] 69 ?_; intro bp hg da hbox hb; have bb := hbox; have bq := nge HB hg; have br := nge HB hg; replace HB := nbs HB hb; clear hb hbox hg; obtain ⟨db, dc, dd⟩ := c3e bb; obtain ⟨de, df, dg⟩ := z3_ bb) | (go_at_call 30; (with_reducible refine (spec_l1In.calls a0_0 0 6 true _ A2.out).mono ?_); rintro e w' ⟨rfl, ⟨nd, rfl⟩⟩; (try first | exact ⟨rfl, _, World.drewN_drewN _ _ _⟩ | exact ⟨rfl, _, Eq.trans (World.drewN_drewN _ _ _) (congrArg (World.drewN _) (Nat.add_assoc _ _ _))⟩)) | (go_at_call 30; (with_reducible refine (spec_l1In.calls a0_1 0 63 true _ A4.out).mono ?_); rintro e w' ⟨rfl, ⟨nd, rfl⟩⟩; (try first | exact ⟨rfl, _, World.drewN_drewN _ _ _⟩ | exact ⟨rfl, _, Eq.trans (World.drewN_drewN _ _ _) (congrArg (World.drewN _) (Nat.add_assoc _ _ _))⟩)) | (go_at_call 30; (with_reducible refine (spec_l1In.calls a0_2 0 63 true _ A6.out).mono ?_); rintro e w' ⟨rfl, ⟨nd, rfl⟩⟩; (try first | exact ⟨rfl, _, World.drewN_drewN _ _ _⟩ | exact ⟨rfl, _, Eq.trans (World.drewN_drewN _ _ _) (congrArg (World.drewN _) (Nat.add_assoc _ _ _))⟩)) | (go_at_call 57; (with_reducible refine (spec_l1Min.calls bF 4096 bc _ A12.out).mono ?_); rintro e w' ⟨rfl, ⟨nd, rfl⟩⟩; (try first | exact ⟨rfl, _, World.drewN_drewN _ _ _⟩ | exact ⟨rfl, _, Eq.trans (World.drewN_drewN _ _ _) (congrArg (World.drewN _) (Nat.add_assoc _ _ _))⟩)))
     repeat (go_quiet (first | ((with_reducible refine gate_dst (N := 1) rfl ?_); refine bxe 1 #[.int .i64 a0_0, .int .i64 a0_1, .int .i64 a0_2] 69 ?_; intro bp hg da hbox hb; have bb := hbox; have bq := nge HB hg; have br := nge HB hg; replace HB := nbs HB hb; clear hb hbox hg; obtain ⟨db, dc, dd⟩ := c3e bb; obtain ⟨de, df, dg⟩ := z3_ bb) | (go_at_call 30; (with_reducible refine (spec_l1In.calls a0_0 0 6 true _ A2.out).mono ?_); rintro e w' ⟨rfl, ⟨nd, rfl⟩⟩; (try first | exact ⟨rfl, _, World.drewN_drewN _ _ _⟩ | exact ⟨rfl, _, Eq.trans (World.drewN_drewN _ _ _) (congrArg (World.drewN _) (Nat.add_assoc _ _ _))⟩)) | (go_at_call 30; (with_reducible refine (spec_l1In.calls a0_1 0 63 true _ A4.out).mono ?_); rintro e w' ⟨rfl, ⟨nd, rfl⟩⟩; (try first | exact ⟨rfl, _, World.drewN_drewN _ _ _⟩ | exact ⟨rfl, _, Eq.trans (World.drewN_drewN _ _ _) (congrArg (World.drewN _) (Nat.add_assoc _ _ _))⟩)) | (go_at_call 30; (with_reducible refine (spec_l1In.calls a0_2 0 63 true _ A6.out).mono ?_); rintro e w' ⟨rfl, ⟨nd, rfl⟩⟩; (try first | exact ⟨rfl, _, World.drewN_drewN _ _ _⟩ | exact ⟨rfl, _, Eq.trans (World.drewN_drewN _ _ _) (congrArg (World.drewN _) (Nat.add_assoc _ _ _))⟩)) | (go_at_call 57; (with_reducible refine (spec_l1Min.calls bF 4096 bc _ A12.out).mono ?_); rintro e w' ⟨rfl, ⟨nd, rfl⟩⟩; (try first | exact ⟨rfl, _, World.drewN_drewN _ _ _⟩ | exact ⟨rfl, _, Eq.trans (World.drewN_drewN _ _ _) (congrArg (World.drewN _) (Nat.add_assoc _ _ _))⟩))); try go_wp2_with (first | ((with_reducible refine gate_dst (N := 1) rfl ?_); refine bxe 1 #[.int .i64 a0_0, .int .i64 a0_1, .int .i64 a0_2] 69 ?_; intro bp hg da hbox hb; have bb := hbox; have bq := nge HB hg; have br := nge HB hg; replace HB := nbs HB hb; clear hb hbox hg; obtain ⟨db, dc, dd⟩ := c3e bb; obtain ⟨de, df, dg⟩ := z3_ bb) | (go_at_call 30; (with_reducible refine (spec_l1In.calls a0_0 0 6 true _ A2.out).mono ?_); rintro e w' ⟨rfl, ⟨nd, rfl⟩⟩; (try first | exact ⟨rfl, _, World.drewN_drewN _ _ _⟩ | exact ⟨rfl, _, Eq.trans (World.drewN_drewN _ _ _) (congrArg (World.drewN _) (Nat.add_assoc _ _ _))⟩)) | (go_at_call 30; (with_reducible refine (spec_l1In.calls a0_1 0 63 true _ A4.out).mono ?_); rintro e w' ⟨rfl, ⟨nd, rfl⟩⟩; (try first | exact ⟨rfl, _, World.drewN_drewN _ _ _⟩ | exact ⟨rfl, _, Eq.trans (World.drewN_drewN _ _ _) (congrArg (World.drewN _) (Nat.add_assoc _ _ _))⟩)) | (go_at_call 30; (with_reducible refine (spec_l1In.calls a0_2 0 63 true _ A6.out).mono ?_); rintro e w' ⟨rfl, ⟨nd, rfl⟩⟩; (try first | exact ⟨rfl, _, World.drewN_drewN _ _ _⟩ | exact ⟨rfl, _, Eq.trans (World.drewN_drewN _ _ _) (congrArg (World.drewN _) (Nat.add_assoc _ _ _))⟩)) | (go_at_call 57; (with_reducible refine (spec_l1Min.calls bF 4096 bc _ A12.out).mono ?_); rintro e w' ⟨rfl, ⟨nd, rfl⟩⟩; (try first | exact ⟨rfl, _, World.drewN_drewN _ _ _⟩ | exact ⟨rfl, _, Eq.trans (World.drewN_drewN _ _ _) (congrArg (World.drewN _) (Nat.add_assoc _ _ _))⟩))))
     go_ret3
     exact ⟨by first | rfl | (simp [errW_none, errW_some] <;> rfl) | (simp only [← bE, ← bG]; first | rfl | (simp [errW_none, errW_some] <;> rfl)) | (simp [*, errW_none, errW_some] <;> rfl), nbe HB⟩
    ·rw [if_neg c8] at H
     exact absurd H (by simp)
   ·replace c7 := Bool.eq_false_iff.mpr c7
    subst c7; have H1 : (some (0, 0, false)) = some (r1, r2, r3) := by rw [if_neg (show ¬ (false = true) by decide)] at H; exact H
    clear H; have H := H1; clear H1; simp only [Option.some.injEq, Prod.mk.injEq] at H; obtain ⟨rfl, rfl, rfl⟩ := H
    go_enter Try.func54, Try.ntmps54
    go_wp2_with (first | ((with_reducible refine gate_dst (N := 1) rfl ?_); refine bxe 1 #[.int .i64 a0_0, .int .i64 a0_1, .int .i64 a0_2] 69 ?_; intro bp hg dh hbox hb; have bb := hbox; have bq := nge HB hg; have br := nge HB hg; replace HB := nbs HB hb; clear hb hbox hg; obtain ⟨dr, ds, dt⟩ := c3e bb; obtain ⟨du, dv, dw⟩ := z3_ bb) | (go_at_call 30; (with_reducible refine (spec_l1In.calls a0_0 0 6 true _ A2.out).mono ?_); rintro e w' ⟨rfl, ⟨nd, rfl⟩⟩; (try first | exact ⟨rfl, _, World.drewN_drewN _ _ _⟩ | exact ⟨rfl, _, Eq.trans (World.drewN_drewN _ _ _) (congrArg (World.drewN _) (Nat.add_assoc _ _ _))⟩)) | (go_at_call 30; (with_reducible refine (spec_l1In.calls a0_1 0 63 true _ A4.out).mono ?_); rintro e w' ⟨rfl, ⟨nd, rfl⟩⟩; (try first | exact ⟨rfl, _, World.drewN_drewN _ _ _⟩ | exact ⟨rfl, _, Eq.trans (World.drewN_drewN _ _ _) (congrArg (World.drewN _) (Nat.add_assoc _ _ _))⟩)) | (go_at_call 30; (with_reducible refine (spec_l1In.calls a0_2 0 63 false _ A6.out).mono ?_); rintro e w' ⟨rfl, ⟨nd, rfl⟩⟩; (try first | exact ⟨rfl, _, World.drewN_drewN _ _ _⟩ | exact ⟨rfl, _, Eq.trans (World.drewN_drewN _ _ _) (congrArg (World.drewN _) (Nat.add_assoc _ _ _))⟩)))
    repeat (go_quiet (first | ((with_reducible refine gate_dst (N := 1) rfl ?_); refine bxe 1 #[.int .i64 a0_0, .int .i64 a0_1, .int .i64 a0_2] 69 ?_; intro bp hg dh hbox hb; have bb := hbox; have bq := nge HB hg; have br := nge HB hg; replace HB := nbs HB hb; clear hb hbox hg; obtain ⟨dr, ds, dt⟩ := c3e bb; obtain ⟨du, dv, dw⟩ := z3_ bb) | (go_at_call 30; (with_reducible refine (spec_l1In.calls a0_0 0 6 true _ A2.out).mono ?_); rintro e w' ⟨rfl, ⟨nd, rfl⟩⟩; (try first | exact ⟨rfl, _, World.drewN_drewN _ _ _⟩ | exact ⟨rfl, _, Eq.trans (World.drewN_drewN _ _ _) (congrArg (World.drewN _) (Nat.add_assoc _ _ _))⟩)) | (go_at_call 30; (with_reducible refine (spec_l1In.calls a0_1 0 63 true _ A4.out).mono ?_); rintro e w' ⟨rfl, ⟨nd, rfl⟩⟩; (try first | exact ⟨rfl, _, World.drewN_drewN _ _ _⟩ | exact ⟨rfl, _, Eq.trans (World.drewN_drewN _ _ _) (congrArg (World.drewN _) (Nat.add_assoc _ _ _))⟩)) | (go_at_call 30; (with_reducible refine (spec_l1In.calls a0_2 0 63 false _ A6.out).mono ?_); rintro e w' ⟨rfl, ⟨nd, rfl⟩⟩; (try first | exact ⟨rfl, _, World.drewN_drewN _ _ _⟩ | exact ⟨rfl, _, Eq.trans (World.drewN_drewN _ _ _) (congrArg (World.drewN _) (Nat.add_assoc _ _ _))⟩))); try go_wp2_with (first | ((with_reducible refine gate_dst (N := 1) rfl ?_); refine bxe 1 #[.int .i64 a0_0, .int .i64 a0_1, .int .i64 a0_2] 69 ?_; intro bp hg dh hbox hb; have bb := hbox; have bq := nge HB hg; have br := nge HB hg; replace HB := nbs HB hb; clear hb hbox hg; obtain ⟨dr, ds, dt⟩ := c3e bb; obtain ⟨du, dv, dw⟩ := z3_ bb) | (go_at_call 30; (with_reducible refine (spec_l1In.calls a0_0 0 6 true _ A2.out).mono ?_); rintro e w' ⟨rfl, ⟨nd, rfl⟩⟩; (try first | exact ⟨rfl, _, World.drewN_drewN _ _ _⟩ | exact ⟨rfl, _, Eq.trans (World.drewN_drewN _ _ _) (congrArg (World.drewN _) (Nat.add_assoc _ _ _))⟩)) | (go_at_call 30; (with_reducible refine (spec_l1In.calls a0_1 0 63 true _ A4.out).mono ?_); rintro e w' ⟨rfl, ⟨nd, rfl⟩⟩; (try first | exact ⟨rfl, _, World.drewN_drewN _ _ _⟩ | exact ⟨rfl, _, Eq.trans (World.drewN_drewN _ _ _) (congrArg (World.drewN _) (Nat.add_assoc _ _ _))⟩)) | (go_at_call 30; (with_reducible refine (spec_l1In.calls a0_2 0 63 false _ A6.out).mono ?_); rintro e w' ⟨rfl, ⟨nd, rfl⟩⟩; (try first | exact ⟨rfl, _, World.drewN_drewN _ _ _⟩ | exact ⟨rfl, _, Eq.trans (World.drewN_drewN _ _ _) (congrArg (World.drewN _) (Nat.add_assoc _ _ _))⟩))))
    go_ret3
    exact ⟨er_, nbe HB⟩
  ·replace c5 := Bool.eq_false_iff.mpr c5
   subst c5; have H1 : (some (0, 0, false)) = some (r1, r2, r3) := by rw [if_neg (show ¬ (false = true) by decide)] at H; exact H
   clear H; have H := H1; clear H1; simp only [Option.some.injEq, Prod.mk.injEq] at H; obtain ⟨rfl, rfl, rfl⟩ := H
   go_enter Try.func54, Try.ntmps54
   go_wp2_with (first | ((with_reducible refine gate_dst (N := 1) rfl ?_); refine bxe 1 #[.int .i64 a0_0, .int .i64 a0_1, .int .i64 a0_2] 69 ?_; intro bp hg dx hbox hb; have bb := hbox; have bq := nge HB hg; have br := nge HB hg; replace HB := nbs HB hb; clear hb hbox hg; obtain ⟨dk, dl, dm⟩ := c3e bb; obtain ⟨dn, dp, dq⟩ := z3_ bb) | (go_at_call 30; (with_reducible refine (spec_l1In.calls a0_0 0 6 true _ A2.out).mono ?_); rintro e w' ⟨rfl, ⟨nd, rfl⟩⟩; (try first | exact ⟨rfl, _, World.drewN_drewN _ _ _⟩ | exact ⟨rfl, _, Eq.trans (World.drewN_drewN _ _ _) (congrArg (World.drewN _) (Nat.add_assoc _ _ _))⟩)) | (go_at_call 30; (with_reducible refine (spec_l1In.calls a0_1 0 63 false _ A4.out).mono ?_); rintro e w' ⟨rfl, ⟨nd, rfl⟩⟩; (try first | exact ⟨rfl, _, World.drewN_drewN _ _ _⟩ | exact ⟨rfl, _, Eq.trans (World.drewN_drewN _ _ _) (congrArg (World.drewN _) (Nat.add_assoc _ _ _))⟩)))
   repeat (go_quiet (first | ((with_reducible refine gate_dst (N := 1) rfl ?_); refine bxe 1 #[.int .i64 a0_0, .int .i64 a0_1, .int .i64 a0_2] 69 ?_; intro bp hg dx hbox hb; have bb := hbox; have bq := nge HB hg; have br := nge HB hg; replace HB := nbs HB hb; clear hb hbox hg; obtain ⟨dk, dl, dm⟩ := c3e bb; obtain ⟨dn, dp, dq⟩ := z3_ bb) | (go_at_call 30; (with_reducible refine (spec_l1In.calls a0_0 0 6 true _ A2.out).mono ?_); rintro e w' ⟨rfl, ⟨nd, rfl⟩⟩; (try first | exact ⟨rfl, _, World.drewN_drewN _ _ _⟩ | exact ⟨rfl, _, Eq.trans (World.drewN_drewN _ _ _) (congrArg (World.drewN _) (Nat.add_assoc _ _ _))⟩)) | (go_at_call 30; (with_reducible refine (spec_l1In.calls a0_1 0 63 false _ A4.out).mono ?_); rintro e w' ⟨rfl, ⟨nd, rfl⟩⟩; (try first | exact ⟨rfl, _, World.drewN_drewN _ _ _⟩ | exact ⟨rfl, _, Eq.trans (World.drewN_drewN _ _ _) (congrArg (World.drewN _) (Nat.add_assoc _ _ _))⟩))); try go_wp2_with (first | ((with_reducible refine gate_dst (N := 1) rfl ?_); refine bxe 1 #[.int .i64 a0_0, .int .i64 a0_1, .int .i64 a0_2] 69 ?_; intro bp hg dx hbox hb; have bb := hbox; have bq := nge HB hg; have br := nge HB hg; replace HB := nbs HB hb; clear hb hbox hg; obtain ⟨dk, dl, dm⟩ := c3e bb; obtain ⟨dn, dp, dq⟩ := z3_ bb) | (go_at_call 30; (with_reducible refine (spec_l1In.calls a0_0 0 6 true _ A2.out).mono ?_); rintro e w' ⟨rfl, ⟨nd, rfl⟩⟩; (try first | exact ⟨rfl, _, World.drewN_drewN _ _ _⟩ | exact ⟨rfl, _, Eq.trans (World.drewN_drewN _ _ _) (congrArg (World.drewN _) (Nat.add_assoc _ _ _))⟩)) | (go_at_call 30; (with_reducible refine (spec_l1In.calls a0_1 0 63 false _ A4.out).mono ?_); rintro e w' ⟨rfl, ⟨nd, rfl⟩⟩; (try first | exact ⟨rfl, _, World.drewN_drewN _ _ _⟩ | exact ⟨rfl, _, Eq.trans (World.drewN_drewN _ _ _) (congrArg (World.drewN _) (Nat.add_assoc _ _ _))⟩))))
   go_ret3
   exact ⟨er_, nbe HB⟩
 ·replace c3 := Bool.eq_false_iff.mpr c3
  subst c3; have H1 : (some (0, 0, false)) = some (r1, r2, r3) := by rw [if_neg (show ¬ (false = true) by decide)] at H; exact H
  clear H; have H := H1; clear H1; simp only [Option.some.injEq, Prod.mk.injEq] at H; obtain ⟨rfl, rfl, rfl⟩ := H
  go_enter Try.func54, Try.ntmps54
  go_wp2_with (first | ((with_reducible refine gate_dst (N := 1) rfl ?_); refine bxe 1 #[.int .i64 a0_0, .int .i64 a0_1, .int .i64 a0_2] 69 ?_; intro bp hg bY hbox hb; have bb := hbox; have bq := nge HB hg; have br := nge HB hg; replace HB := nbs HB hb; clear hb hbox hg; obtain ⟨bZ, b0, b1⟩ := c3e bb; obtain ⟨b2, b3, b4⟩ := z3_ bb) | (go_at_call 30; (with_reducible refine (spec_l1In.calls a0_0 0 6 false _ A2.out).mono ?_); rintro e w' ⟨rfl, ⟨nd, rfl⟩⟩; (try first | exact ⟨rfl, _, World.drewN_drewN _ _ _⟩ | exact ⟨rfl, _, Eq.trans (World.drewN_drewN _ _ _) (congrArg (World.drewN _) (Nat.add_assoc _ _ _))⟩)))
  repeat (go_quiet (first | ((with_reducible refine gate_dst (N := 1) rfl ?_); refine bxe 1 #[.int .i64 a0_0, .int .i64 a0_1, .int .i64 a0_2] 69 ?_; intro bp hg bY hbox hb; have bb := hbox; have bq := nge HB hg; have br := nge HB hg; replace HB := nbs HB hb; clear hb hbox hg; obtain ⟨bZ, b0, b1⟩ := c3e bb; obtain ⟨b2, b3, b4⟩ := z3_ bb) | (go_at_call 30; (with_reducible refine (spec_l1In.calls a0_0 0 6 false _ A2.out).mono ?_); rintro e w' ⟨rfl, ⟨nd, rfl⟩⟩; (try first | exact ⟨rfl, _, World.drewN_drewN _ _ _⟩ | exact ⟨rfl, _, Eq.trans (World.drewN_drewN _ _ _) (congrArg (World.drewN _) (Nat.add_assoc _ _ _))⟩))); try go_wp2_with (first | ((with_reducible refine gate_dst (N := 1) rfl ?_); refine bxe 1 #[.int .i64 a0_0, .int .i64 a0_1, .int .i64 a0_2] 69 ?_; intro bp hg bY hbox hb; have bb := hbox; have bq := nge HB hg; have br := nge HB hg; replace HB := nbs HB hb; clear hb hbox hg; obtain ⟨bZ, b0, b1⟩ := c3e bb; obtain ⟨b2, b3, b4⟩ := z3_ bb) | (go_at_call 30; (with_reducible refine (spec_l1In.calls a0_0 0 6 false _ A2.out).mono ?_); rintro e w' ⟨rfl, ⟨nd, rfl⟩⟩; (try first | exact ⟨rfl, _, World.drewN_drewN _ _ _⟩ | exact ⟨rfl, _, Eq.trans (World.drewN_drewN _ _ _) (congrArg (World.drewN _) (Nat.add_assoc _ _ _))⟩))))
  go_ret3
  exact ⟨er_, nbe HB⟩

/-! ### spec_Wide: function 49 -/
def spec_Wide.f (k : Nat) (a0 : Int) (a1 : Int) : Option (Int × Int) := (spec_Pack.f k a0 a1).bind fun bB => (if bB.2.2.2 = true then ((spec_Unpack.f bB.1 bB.2.1 bB.2.2.1).bind fun bs => (some (bs.1, bs.2.1))) else ((spec_BoundsOk.f a0 a1).bind fun bw => (if bw = true then (some (0, 4096)) else (some (0, 0)))))
theorem spec_Wide.mono : ∀ a0 a1 k, LeO (spec_Wide.f k a0 a1) (spec_Wide.f (k + 1) a0 a1) := by
 intro a0 a1 k
 unfold spec_Wide.f
 repeat' first
   | (with_reducible exact spec_Pack.mono _ _ _)
   | (with_reducible exact LeO.refl _)
   | (with_reducible exact LeO.none _)
   | (with_reducible refine LeO.ite ?_ ?_)
   | (with_reducible refine LeO.bind ?_ (fun _ => ?_))
   | exact spec_Pack.mono _ _ _
   | exact LeO.none _
   | refine LeO.ite ?_ ?_
   | refine LeO.bind ?_ (fun _ => ?_)
set_option maxHeartbeats 8000000 in
set_option maxRecDepth 100000 in
theorem spec_Wide.calls (k : Nat) (a0 : Int) (a1 : Int) (r1 : Int) (r2 : Int) (w : World) (h : spec_Wide.f k a0 a1 = some (r1, r2)) :
  Calls Try.prog 49 #[.int .i64 a0, .int .i64 a1] w fun e w' => e = .returned (.tuple #[.int .i64 r1, .int .i64 r2]) ∧ Below w.heap.size w w' := by
 have hu69 := Try.underlying69; have HB := Aside0.mk (Below.refl w.heap.size w); have H : ((spec_Pack.f k a0 a1).bind fun bB => (if bB.2.2.2 = true then ((spec_Unpack.f bB.1 bB.2.1 bB.2.2.1).bind fun bs => (some (bs.1, bs.2.1))) else ((spec_BoundsOk.f a0 a1).bind fun bw => (if bw = true then (some (0, 4096)) else (some (0, 0)))))) = some (r1, r2) := h; clear h; replace H := Option.bind_eq_some_iff.mp H; obtain ⟨⟨bH, bI, bJ, dP⟩, A30, H⟩ := H; replace H : (if dP = true then ((spec_Unpack.f bH bI bJ).bind fun bs => (some (bs.1, bs.2.1))) else ((spec_BoundsOk.f a0 a1).bind fun bw => (if bw = true then (some (0, 4096)) else (some (0, 0))))) = some (r1, r2) := H; have A3 := Aside0.mk A30; clear A30
 by_cases c4 : dP = true
 ·subst c4
  have H1 : ((spec_Unpack.f bH bI bJ).bind fun bs => (some (bs.1, bs.2.1))) = some (r1, r2) := by rw [if_pos rfl] at H; exact H
  clear H; have H := H1; clear H1; replace H := Option.bind_eq_some_iff.mp H; obtain ⟨⟨dQ, dR, ek⟩, A50, H⟩ := H; replace H : (some (dQ, dR)) = some (r1, r2) := H; have A5 := Aside0.mk A50; clear A50; simp only [Option.some.injEq, Prod.mk.injEq] at H; obtain ⟨rfl, rfl⟩ := H
  go_enter Try.func49, Try.ntmps49
  go_wp2_with (first | ((with_reducible refine gate_callee (f := 53) rfl ?_); refine goesM (some 14) rfl rfl Try.func53 (by kernel_rfl) rfl #[.int .i64 a0, .int .i64 a1] rfl ?_; (with_reducible refine (spec_Pack.calls k a0 a1 bH bI bJ true _ A3.out).mono ?_); rintro e w6 ⟨rfl, hb⟩; refine ⟨_, rfl, ?_⟩; replace HB := nbs HB hb; (try clear hb)) | ((with_reducible refine gate_dst (N := 6) rfl ?_); refine bxe 6 #[.int .i64 0, .int .i64 0, .int .i64 0] 69 ?_; intro dy hg w7 hbox hb; have bx := hbox; have dS := nge HB hg; have dT := nge HB hg; replace HB := nbs HB hb; clear hb hbox hg; obtain ⟨dU, dV, dW⟩ := c3e bx; obtain ⟨dX, dY, dZ⟩ := z3_ bx) | ((with_reducible refine gate_callee (f := 54) rfl ?_); refine goesM (some 24) rfl rfl Try.func54 (by kernel_rfl) rfl #[.agg #[.int .i64 bH, .int .i64 bI, .int .i64 bJ]] rfl ?_; (with_reducible refine (spec_Unpack.calls bH bI bJ dQ dR ek _ A5.out).mono ?_); rintro e w9 ⟨rfl, hb⟩; refine ⟨_, rfl, ?_⟩; replace bx := Aside0.mk (blk_below (g := dy) (o := .cells #[.int .i64 bH, .int .i64 bI, .int .i64 bJ] 69 (0, 0)) (q3 bx) hb); replace HB := nbs HB hb; (try clear hb)))
  go_ret2
  exact ⟨er_, nbe HB⟩
 ·replace c4 := Bool.eq_false_iff.mpr c4
  subst c4; have H1 : ((spec_BoundsOk.f a0 a1).bind fun bw => (if bw = true then (some (0, 4096)) else (some (0, 0)))) = some (r1, r2) := by rw [if_neg (show ¬ (false = true) by decide)] at H; exact H
  clear H; have H := H1; clear H1; replace H := Option.bind_eq_some_iff.mp H; obtain ⟨bw, A100, H⟩ := H; replace H : (if bw = true then (some (0, 4096)) else (some (0, 0))) = some (r1, r2) := H; have A10 := Aside0.mk A100; clear A100
  by_cases c11 : bw = true
  ·subst c11
   have H1 : (some (0, 4096)) = some (r1, r2) := by rw [if_pos rfl] at H; exact H
   clear H; have H := H1; clear H1; simp only [Option.some.injEq, Prod.mk.injEq] at H; obtain ⟨rfl, rfl⟩ := H
   go_enter Try.func49, Try.ntmps49
   go_wp2_with (first | ((with_reducible refine gate_callee (f := 53) rfl ?_); refine goesM (some 14) rfl rfl Try.func53 (by kernel_rfl) rfl #[.int .i64 a0, .int .i64 a1] rfl ?_; (with_reducible refine (spec_Pack.calls k a0 a1 bH bI bJ false _ A3.out).mono ?_); rintro e el ⟨rfl, hb⟩; refine ⟨_, rfl, ?_⟩; replace HB := nbs HB hb; (try clear hb)) | ((with_reducible refine gate_dst (N := 6) rfl ?_); refine bxe 6 #[.int .i64 0, .int .i64 0, .int .i64 0] 69 ?_; intro dy hg da hbox hb; have bx := hbox; have dS := nge HB hg; have dT := nge HB hg; replace HB := nbs HB hb; clear hb hbox hg; obtain ⟨db, dc, dd⟩ := c3e bx; obtain ⟨de, df, dg⟩ := z3_ bx) | ((with_reducible refine gate_callee (f := 50) rfl ?_); refine goesM (some 21) rfl rfl Try.func50 (by kernel_rfl) rfl #[.int .i64 a0, .int .i64 a1] rfl ?_; (with_reducible refine (spec_BoundsOk.calls a0 a1 true _ A10.out).mono ?_); rintro e w' ⟨rfl, ⟨nd, rfl⟩⟩; refine ⟨_, rfl, ?_⟩))
   go_ret2
   exact ⟨er_, nbe HB⟩
  ·replace c11 := Bool.eq_false_iff.mpr c11
   subst c11; have H1 : (some (0, 0)) = some (r1, r2) := by rw [if_neg (show ¬ (false = true) by decide)] at H; exact H
   clear H; have H := H1; clear H1; simp only [Option.some.injEq, Prod.mk.injEq] at H; obtain ⟨rfl, rfl⟩ := H
   go_enter Try.func49, Try.ntmps49
   go_wp2_with (first | ((with_reducible refine gate_callee (f := 53) rfl ?_); refine goesM (some 14) rfl rfl Try.func53 (by kernel_rfl) rfl #[.int .i64 a0, .int .i64 a1] rfl ?_; (with_reducible refine (spec_Pack.calls k a0 a1 bH bI bJ false _ A3.out).mono ?_); rintro e dh ⟨rfl, hb⟩; refine ⟨_, rfl, ?_⟩; replace HB := nbs HB hb; (try clear hb)) | ((with_reducible refine gate_dst (N := 6) rfl ?_); refine bxe 6 #[.int .i64 0, .int .i64 0, .int .i64 0] 69 ?_; intro dy hg em hbox hb; have bx := hbox; have dS := nge HB hg; have dT := nge HB hg; replace HB := nbs HB hb; clear hb hbox hg; obtain ⟨dJ, dK, dL⟩ := c3e bx; obtain ⟨dM, dN, dO⟩ := z3_ bx) | ((with_reducible refine gate_callee (f := 50) rfl ?_); refine goesM (some 21) rfl rfl Try.func50 (by kernel_rfl) rfl #[.int .i64 a0, .int .i64 a1] rfl ?_; (with_reducible refine (spec_BoundsOk.calls a0 a1 false _ A10.out).mono ?_); rintro e w' ⟨rfl, ⟨nd, rfl⟩⟩; refine ⟨_, rfl, ?_⟩))
   go_ret2
   exact ⟨er_, nbe HB⟩

/-! ### spec_Exact: function 47 -/
def spec_Exact.f (k : Nat) (a0 : Int) (a1 : Int) : Option (Bool) := (spec_Wide.f k a0 a1).bind fun b5 => ((spec_BoundsOk.f a0 a1).bind fun bK => (if bK = true then (if b5.1 = a0 then (some (b5.2 == a1)) else (some false)) else (some false)))
theorem spec_Exact.mono : ∀ a0 a1 k, LeO (spec_Exact.f k a0 a1) (spec_Exact.f (k + 1) a0 a1) := by
 intro a0 a1 k
 unfold spec_Exact.f
 repeat' first
   | (with_reducible exact spec_Wide.mono _ _ _)
   | (with_reducible exact LeO.refl _)
   | (with_reducible exact LeO.none _)
   | (with_reducible refine LeO.ite ?_ ?_)
   | (with_reducible refine LeO.bind ?_ (fun _ => ?_))
   | exact spec_Wide.mono _ _ _
   | exact LeO.none _
   | refine LeO.ite ?_ ?_
   | refine LeO.bind ?_ (fun _ => ?_)
set_option maxHeartbeats 8000000 in
set_option maxRecDepth 100000 in
theorem spec_Exact.calls (k : Nat) (a0 : Int) (a1 : Int) (r : Bool) (w : World) (h : spec_Exact.f k a0 a1 = some r) :
  Calls Try.prog 47 #[.int .i64 a0, .int .i64 a1] w fun e w' => e = .returned (.bool r) ∧ Below w.heap.size w w' := by
 have HB := Aside0.mk (Below.refl w.heap.size w); have H : ((spec_Wide.f k a0 a1).bind fun b5 => ((spec_BoundsOk.f a0 a1).bind fun bK => (if bK = true then (if b5.1 = a0 then (some (b5.2 == a1)) else (some false)) else (some false)))) = some r := h; clear h; replace H := Option.bind_eq_some_iff.mp H; obtain ⟨⟨bt, bP⟩, A30, H⟩ := H; replace H : ((spec_BoundsOk.f a0 a1).bind fun bK => (if bK = true then (if bt = a0 then (some (bP == a1)) else (some false)) else (some false))) = some r := H; have A3 := Aside0.mk A30; clear A30; replace H := Option.bind_eq_some_iff.mp H; obtain ⟨bK, A40, H⟩ := H; replace H : (if bK = true then (if bt = a0 then (some (bP == a1)) else (some false)) else (some false)) = some r := H; have A4 := Aside0.mk A40; clear A40
 by_cases c5 : bK = true
 ·subst c5
  have H1 : (if bt = a0 then (some (bP == a1)) else (some false)) = some r := by rw [if_pos rfl] at H; exact H
  clear H; have H := H1; clear H1
  by_cases c6 : bt = a0
  ·rw [if_pos c6] at H
   have c6b0 : (bt == a0) = true := beq_iff_eq.mpr c6; have c6b1 : (bt != a0) = false := bne_eq_false_iff_eq.mpr c6; clear c6; obtain rfl := Option.some.inj H
   go_enter Try.func47, Try.ntmps47
   go_wp2_with (first | ((with_reducible refine gate_callee (f := 49) rfl ?_); refine goesM (some 10) rfl rfl Try.func49 (by kernel_rfl) rfl #[.int .i64 a0, .int .i64 a1] rfl ?_; (with_reducible refine (spec_Wide.calls k a0 a1 bt bP _ A3.out).mono ?_); rintro e w7 ⟨rfl, hb⟩; refine ⟨_, rfl, ?_⟩; replace HB := nbs HB hb; (try clear hb)) | ((with_reducible refine gate_callee (f := 50) rfl ?_); refine goesM (some 15) rfl rfl Try.func50 (by kernel_rfl) rfl #[.int .i64 a0, .int .i64 a1] rfl ?_; (with_reducible refine (spec_BoundsOk.calls a0 a1 true _ A4.out).mono ?_); rintro e w' ⟨rfl, ⟨nd, rfl⟩⟩; refine ⟨_, rfl, ?_⟩))
   go_ret
   exact ⟨er_, nbe HB⟩
  ·rw [if_neg c6] at H
   have c6b0 : (bt == a0) = false := beq_eq_false_iff_ne.mpr c6; have c6b1 : (bt != a0) = true := bne_iff_ne.mpr c6; obtain rfl := Option.some.inj H
   go_enter Try.func47, Try.ntmps47
   go_wp2_with (first | ((with_reducible refine gate_callee (f := 49) rfl ?_); refine goesM (some 10) rfl rfl Try.func49 (by kernel_rfl) rfl #[.int .i64 a0, .int .i64 a1] rfl ?_; (with_reducible refine (spec_Wide.calls k a0 a1 bt bP _ A3.out).mono ?_); rintro e w8 ⟨rfl, hb⟩; refine ⟨_, rfl, ?_⟩; replace HB := nbs HB hb; (try clear hb)) | ((with_reducible refine gate_callee (f := 50) rfl ?_); refine goesM (some 15) rfl rfl Try.func50 (by kernel_rfl) rfl #[.int .i64 a0, .int .i64 a1] rfl ?_; (with_reducible refine (spec_BoundsOk.calls a0 a1 true _ A4.out).mono ?_); rintro e w' ⟨rfl, ⟨nd, rfl⟩⟩; refine ⟨_, rfl, ?_⟩))
   go_ret
   exact ⟨er_, nbe HB⟩
 ·replace c5 := Bool.eq_false_iff.mpr c5
  subst c5; have H1 : (some false) = some r := by rw [if_neg (show ¬ (false = true) by decide)] at H; exact H
  clear H; have H := H1; clear H1; obtain rfl := Option.some.inj H
  go_enter Try.func47, Try.ntmps47
  go_wp2_with (first | ((with_reducible refine gate_callee (f := 49) rfl ?_); refine goesM (some 10) rfl rfl Try.func49 (by kernel_rfl) rfl #[.int .i64 a0, .int .i64 a1] rfl ?_; (with_reducible refine (spec_Wide.calls k a0 a1 bt bP _ A3.out).mono ?_); rintro e w9 ⟨rfl, hb⟩; refine ⟨_, rfl, ?_⟩; replace HB := nbs HB hb; (try clear hb)) | ((with_reducible refine gate_callee (f := 50) rfl ?_); refine goesM (some 15) rfl rfl Try.func50 (by kernel_rfl) rfl #[.int .i64 a0, .int .i64 a1] rfl ?_; (with_reducible refine (spec_BoundsOk.calls a0 a1 false _ A4.out).mono ?_); rintro e w' ⟨rfl, ⟨nd, rfl⟩⟩; refine ⟨_, rfl, ?_⟩))
  go_ret
  exact ⟨er_, nbe HB⟩

/-! ### spec_KeyOk: function 42 -/
def spec_KeyOk.f (k : Nat) (a0_0 : Int) (a0_1 : Int) (a0_2 : Int) (a0_3 : Int) : Option (Bool) := (spec_Exact.f k a0_0 a0_1).bind fun bQ => (if bQ = true then ((spec_l1In.f a0_2 0 63).bind fun bz => (if bz = true then ((spec_l1In.f a0_3 0 7).bind fun bl => (some bl)) else (some false))) else (some false))
theorem spec_KeyOk.mono : ∀ a0 a1 a2 a3 k, LeO (spec_KeyOk.f k a0 a1 a2 a3) (spec_KeyOk.f (k + 1) a0 a1 a2 a3) := by
 intro a0 a1 a2 a3 k
 unfold spec_KeyOk.f
 repeat' first
   | (with_reducible exact spec_Exact.mono _ _ _)
   | (with_reducible exact LeO.refl _)
   | (with_reducible exact LeO.none _)
   | (with_reducible refine LeO.ite ?_ ?_)
   | (with_reducible refine LeO.bind ?_ (fun _ => ?_))
   | exact spec_Exact.mono _ _ _
   | exact LeO.none _
   | refine LeO.ite ?_ ?_
   | refine LeO.bind ?_ (fun _ => ?_)
set_option maxHeartbeats 8000000 in
set_option maxRecDepth 100000 in
theorem spec_KeyOk.calls (k : Nat) (a0_0 : Int) (a0_1 : Int) (a0_2 : Int) (a0_3 : Int) (r : Bool) (w : World) (h : spec_KeyOk.f k a0_0 a0_1 a0_2 a0_3 = some r) :
  Calls Try.prog 42 #[.agg #[.int .i64 a0_0, .int .i64 a0_1, .int .i64 a0_2, .int .i64 a0_3]] w fun e w' => e = .returned (.bool r) ∧ Below w.heap.size w w' := by
 have hu37 := Try.underlying37; have HB := Aside0.mk (Below.refl w.heap.size w); have H : ((spec_Exact.f k a0_0 a0_1).bind fun bQ => (if bQ = true then ((spec_l1In.f a0_2 0 63).bind fun bz => (if bz = true then ((spec_l1In.f a0_3 0 7).bind fun bl => (some bl)) else (some false))) else (some false))) = some r := h; clear h; replace H := Option.bind_eq_some_iff.mp H; obtain ⟨bQ, A20, H⟩ := H; replace H : (if bQ = true then ((spec_l1In.f a0_2 0 63).bind fun bz => (if bz = true then ((spec_l1In.f a0_3 0 7).bind fun bl => (some bl)) else (some false))) else (some false)) = some r := H; have A2 := Aside0.mk A20; clear A20
 by_cases c3 : bQ = true
 ·subst c3
  have H1 : ((spec_l1In.f a0_2 0 63).bind fun bz => (if bz = true then ((spec_l1In.f a0_3 0 7).bind fun bl => (some bl)) else (some false))) = some r := by rw [if_pos rfl] at H; exact H
  clear H; have H := H1; clear H1; replace H := Option.bind_eq_some_iff.mp H; obtain ⟨bz, A40, H⟩ := H; replace H : (if bz = true then ((spec_l1In.f a0_3 0 7).bind fun bl => (some bl)) else (some false)) = some r := H; have A4 := Aside0.mk A40; clear A40
  by_cases c5 : bz = true
  ·subst c5
   have H1 : ((spec_l1In.f a0_3 0 7).bind fun bl => (some bl)) = some r := by rw [if_pos rfl] at H; exact H
   clear H; have H := H1; clear H1; replace H := Option.bind_eq_some_iff.mp H; obtain ⟨bl, A60, H⟩ := H; replace H : (some bl) = some r := H; have A6 := Aside0.mk A60; clear A60; obtain rfl := Option.some.inj H
   go_enter Try.func42, Try.ntmps42
   go_wp2_with (first | ((with_reducible refine gate_dst (N := 1) rfl ?_); refine bxe 1 #[.int .i64 a0_0, .int .i64 a0_1, .int .i64 a0_2, .int .i64 a0_3] 37 ?_; intro d0 hg w7 hbox hb; have bh := hbox; have d1 := nge HB hg; have d2 := nge HB hg; replace HB := nbs HB hb; clear hb hbox hg; obtain ⟨dU, dV, dW, en⟩ := c4e bh; obtain ⟨dX, dY, dZ, eo⟩ := z4_ bh) | ((with_reducible refine gate_callee (f := 47) rfl ?_); refine goesM (some 7) rfl rfl Try.func47 (by kernel_rfl) rfl #[.int .i64 a0_0, .int .i64 a0_1] rfl ?_; (with_reducible refine (spec_Exact.calls k a0_0 a0_1 true _ A2.out).mono ?_); rintro e w9 ⟨rfl, hb⟩; refine ⟨_, rfl, ?_⟩; replace bh := nblk bh hb; replace HB := nbs HB hb; (try clear hb); obtain ⟨d5, d6, eI, eJ⟩ := c4e bh; obtain ⟨d7, d8, eK, eL⟩ := z4_ bh) | (go_at_call 30; (with_reducible refine (spec_l1In.calls a0_2 0 63 true _ A4.out).mono ?_); rintro e w' ⟨rfl, ⟨nd, rfl⟩⟩) | (go_at_call 30; (with_reducible refine (spec_l1In.calls a0_3 0 7 bl _ A6.out).mono ?_); rintro e w' ⟨rfl, ⟨nd, rfl⟩⟩))
   go_ret
   exact ⟨er_, nbe HB⟩
  ·replace c5 := Bool.eq_false_iff.mpr c5
   subst c5; have H1 : (some false) = some r := by rw [if_neg (show ¬ (false = true) by decide)] at H; exact H
   clear H; have H := H1; clear H1; obtain rfl := Option.some.inj H
   go_enter Try.func42, Try.ntmps42
   go_wp2_with (first | ((with_reducible refine gate_dst (N := 1) rfl ?_); refine bxe 1 #[.int .i64 a0_0, .int .i64 a0_1, .int .i64 a0_2, .int .i64 a0_3] 37 ?_; intro d0 hg d9 hbox hb; have bh := hbox; have d1 := nge HB hg; have d2 := nge HB hg; replace HB := nbs HB hb; clear hb hbox hg; obtain ⟨ea, eb, eM, eN⟩ := c4e bh; obtain ⟨ec, ed, eO, eP⟩ := z4_ bh) | ((with_reducible refine gate_callee (f := 47) rfl ?_); refine goesM (some 7) rfl rfl Try.func47 (by kernel_rfl) rfl #[.int .i64 a0_0, .int .i64 a0_1] rfl ?_; (with_reducible refine (spec_Exact.calls k a0_0 a0_1 true _ A2.out).mono ?_); rintro e da ⟨rfl, hb⟩; refine ⟨_, rfl, ?_⟩; replace bh := nblk bh hb; replace HB := nbs HB hb; (try clear hb); obtain ⟨db, dc, dd, eQ⟩ := c4e bh; obtain ⟨de, df, dg, eR⟩ := z4_ bh) | (go_at_call 30; (with_reducible refine (spec_l1In.calls a0_2 0 63 false _ A4.out).mono ?_); rintro e w' ⟨rfl, ⟨nd, rfl⟩⟩))
   go_ret
   exact ⟨er_, nbe HB⟩
 ·replace c3 := Bool.eq_false_iff.mpr c3
  subst c3; have H1 : (some false) = some r := by rw [if_neg (show ¬ (false = true) by decide)] at H; exact H
  clear H; have H := H1; clear H1; obtain rfl := Option.some.inj H
  go_enter Try.func42, Try.ntmps42
  go_wp2_with (first | ((with_reducible refine gate_dst (N := 1) rfl ?_); refine bxe 1 #[.int .i64 a0_0, .int .i64 a0_1, .int .i64 a0_2, .int .i64 a0_3] 37 ?_; intro d0 hg dh hbox hb; have bh := hbox; have d1 := nge HB hg; have d2 := nge HB hg; replace HB := nbs HB hb; clear hb hbox hg; obtain ⟨dr, ds, dt, eS⟩ := c4e bh; obtain ⟨du, dv, dw, eT⟩ := z4_ bh) | ((with_reducible refine gate_callee (f := 47) rfl ?_); refine goesM (some 7) rfl rfl Try.func47 (by kernel_rfl) rfl #[.int .i64 a0_0, .int .i64 a0_1] rfl ?_; (with_reducible refine (spec_Exact.calls k a0_0 a0_1 false _ A2.out).mono ?_); rintro e dx ⟨rfl, hb⟩; refine ⟨_, rfl, ?_⟩; replace bh := nblk bh hb; replace HB := nbs HB hb; (try clear hb)))
  go_ret
  exact ⟨er_, nbe HB⟩

/-! ### spec_WordOk: function 32 -/
def spec_WordOk.f (k : Nat) (a0_0 : Int) (a0_1 : Bool) (a0_2 : Int) (a0_3 : Int) (a0_4 : Int) (a0_5 : Int) : Option (Bool) := (spec_l1In.f a0_0 0 65535).bind fun bR => (if bR = true then (if a0_1 = true then ((spec_KeyOk.f k a0_2 a0_3 a0_4 a0_5).bind fun bm => (if bm = true then (some true) else (some false))) else (some (a0_2 == 0 && (a0_3 == 0 && (a0_4 == 0 && (a0_5 == 0)))))) else (some false))
theorem spec_WordOk.mono : ∀ a0 a1 a2 a3 a4 a5 k, LeO (spec_WordOk.f k a0 a1 a2 a3 a4 a5) (spec_WordOk.f (k + 1) a0 a1 a2 a3 a4 a5) := by
 intro a0 a1 a2 a3 a4 a5 k
 unfold spec_WordOk.f
 repeat' first
   | (with_reducible exact spec_KeyOk.mono _ _ _ _ _)
   | (with_reducible exact LeO.refl _)
   | (with_reducible exact LeO.none _)
   | (with_reducible refine LeO.ite ?_ ?_)
   | (with_reducible refine LeO.bind ?_ (fun _ => ?_))
   | exact spec_KeyOk.mono _ _ _ _ _
   | exact LeO.none _
   | refine LeO.ite ?_ ?_
   | refine LeO.bind ?_ (fun _ => ?_)
set_option maxHeartbeats 8000000 in
set_option maxRecDepth 100000 in
theorem spec_WordOk.calls (k : Nat) (a0_0 : Int) (a0_1 : Bool) (a0_2 : Int) (a0_3 : Int) (a0_4 : Int) (a0_5 : Int) (r : Bool) (w : World) (h : spec_WordOk.f k a0_0 a0_1 a0_2 a0_3 a0_4 a0_5 = some r) :
  Calls Try.prog 32 #[.agg #[.int .i64 a0_0, .bool a0_1, .int .i64 a0_2, .int .i64 a0_3, .int .i64 a0_4, .int .i64 a0_5]] w fun e w' => e = .returned (.bool r) ∧ Below w.heap.size w w' := by
 have hu39 := Try.underlying39; have hu37 := Try.underlying37; have HB := Aside0.mk (Below.refl w.heap.size w); have H : ((spec_l1In.f a0_0 0 65535).bind fun bR => (if bR = true then (if a0_1 = true then ((spec_KeyOk.f k a0_2 a0_3 a0_4 a0_5).bind fun bm => (if bm = true then (some true) else (some false))) else (some (a0_2 == 0 && (a0_3 == 0 && (a0_4 == 0 && (a0_5 == 0)))))) else (some false))) = some r := h; clear h; replace H := Option.bind_eq_some_iff.mp H; obtain ⟨bR, A20, H⟩ := H; replace H : (if bR = true then (if a0_1 = true then ((spec_KeyOk.f k a0_2 a0_3 a0_4 a0_5).bind fun bm => (if bm = true then (some true) else (some false))) else (some (a0_2 == 0 && (a0_3 == 0 && (a0_4 == 0 && (a0_5 == 0)))))) else (some false)) = some r := H; have A2 := Aside0.mk A20; clear A20
 by_cases c3 : bR = true
 ·subst c3
  have H1 : (if a0_1 = true then ((spec_KeyOk.f k a0_2 a0_3 a0_4 a0_5).bind fun bm => (if bm = true then (some true) else (some false))) else (some (a0_2 == 0 && (a0_3 == 0 && (a0_4 == 0 && (a0_5 == 0)))))) = some r := by rw [if_pos rfl] at H; exact H
  clear H; have H := H1; clear H1
  by_cases c4 : a0_1 = true
  ·subst c4
   have H1 : ((spec_KeyOk.f k a0_2 a0_3 a0_4 a0_5).bind fun bm => (if bm = true then (some true) else (some false))) = some r := by rw [if_pos rfl] at H; exact H
   clear H; have H := H1; clear H1; replace H := Option.bind_eq_some_iff.mp H; obtain ⟨bm, A50, H⟩ := H; replace H : (if bm = true then (some true) else (some false)) = some r := H; have A5 := Aside0.mk A50; clear A50
   by_cases c6 : bm = true
   ·subst c6
    have H1 : (some true) = some r := by rw [if_pos rfl] at H; exact H
    clear H; have H := H1; clear H1; obtain rfl := Option.some.inj H
    go_enter Try.func32, Try.ntmps32
    go_wp2_with (first | ((with_reducible refine gate_dst (N := 1) rfl ?_); refine bxe 1 #[.int .i64 a0_0, .bool true, .int .i64 a0_2, .int .i64 a0_3, .int .i64 a0_4, .int .i64 a0_5] 39 ?_; intro dz hg w7 hbox hb; have bi := hbox; have dA := nge HB hg; have dB := nge HB hg; replace HB := nbs HB hb; clear hb hbox hg; obtain ⟨dU, dV, dW, en, eU, eV⟩ := c6e bi; obtain ⟨dX, dY, dZ, eo, eW, eX⟩ := z6_ bi) | ((with_reducible refine gate_callee (f := 30) rfl ?_); refine goesM (some 5) rfl rfl Try.func30 (by kernel_rfl) rfl #[.int .i64 a0_0, .int .i64 0, .int .i64 65535] rfl ?_; (with_reducible refine (spec_l1In.calls a0_0 0 65535 true _ A2.out).mono ?_); rintro e w' ⟨rfl, ⟨nd, rfl⟩⟩; refine ⟨_, rfl, ?_⟩) | (go_at_call 42; (with_reducible refine (spec_KeyOk.calls k a0_2 a0_3 a0_4 a0_5 true _ A5.out).mono ?_); rintro e w9 ⟨rfl, hb⟩; replace bi := nblk bi hb; replace HB := nbs HB hb; (try clear hb)))
    go_ret
    exact ⟨er_, nbe HB⟩
   ·replace c6 := Bool.eq_false_iff.mpr c6
    subst c6; have H1 : (some false) = some r := by rw [if_neg (show ¬ (false = true) by decide)] at H; exact H
    clear H; have H := H1; clear H1; obtain rfl := Option.some.inj H
    go_enter Try.func32, Try.ntmps32
    go_wp2_with (first | ((with_reducible refine gate_dst (N := 1) rfl ?_); refine bxe 1 #[.int .i64 a0_0, .bool true, .int .i64 a0_2, .int .i64 a0_3, .int .i64 a0_4, .int .i64 a0_5] 39 ?_; intro dz hg eY hbox hb; have bi := hbox; have dA := nge HB hg; have dB := nge HB hg; replace HB := nbs HB hb; clear hb hbox hg; obtain ⟨eZ, e0, e1, e2, e3, e4⟩ := c6e bi; obtain ⟨e5, e6, e7, e8, e9, ga⟩ := z6_ bi) | ((with_reducible refine gate_callee (f := 30) rfl ?_); refine goesM (some 5) rfl rfl Try.func30 (by kernel_rfl) rfl #[.int .i64 a0_0, .int .i64 0, .int .i64 65535] rfl ?_; (with_reducible refine (spec_l1In.calls a0_0 0 65535 true _ A2.out).mono ?_); rintro e w' ⟨rfl, ⟨nd, rfl⟩⟩; refine ⟨_, rfl, ?_⟩) | (go_at_call 42; (with_reducible refine (spec_KeyOk.calls k a0_2 a0_3 a0_4 a0_5 false _ A5.out).mono ?_); rintro e el ⟨rfl, hb⟩; replace bi := nblk bi hb; replace HB := nbs HB hb; (try clear hb); obtain ⟨gb, gc, gd, gf, gg, gh⟩ := c6e bi; obtain ⟨gi, gj, gl, gm, gn, gp⟩ := z6_ bi))
    go_ret
    exact ⟨er_, nbe HB⟩
  ·replace c4 := Bool.eq_false_iff.mpr c4
   subst c4; have H1 : (some (a0_2 == 0 && (a0_3 == 0 && (a0_4 == 0 && (a0_5 == 0))))) = some r := by rw [if_neg (show ¬ (false = true) by decide)] at H; exact H
   clear H; have H := H1; clear H1; obtain rfl := Option.some.inj H
   go_enter Try.func32, Try.ntmps32
   go_wp2_with (first | ((with_reducible refine gate_dst (N := 1) rfl ?_); refine bxe 1 #[.int .i64 a0_0, .bool false, .int .i64 a0_2, .int .i64 a0_3, .int .i64 a0_4, .int .i64 a0_5] 39 ?_; intro dz hg gq hbox hb; have bi := hbox; have dA := nge HB hg; have dB := nge HB hg; replace HB := nbs HB hb; clear hb hbox hg; obtain ⟨gr, gs, gt, gu, gv, gw⟩ := c6e bi; obtain ⟨gx, gy, gz, gA, gB, gC⟩ := z6_ bi) | ((with_reducible refine gate_callee (f := 30) rfl ?_); refine goesM (some 5) rfl rfl Try.func30 (by kernel_rfl) rfl #[.int .i64 a0_0, .int .i64 0, .int .i64 65535] rfl ?_; (with_reducible refine (spec_l1In.calls a0_0 0 65535 true _ A2.out).mono ?_); rintro e w' ⟨rfl, ⟨nd, rfl⟩⟩; refine ⟨_, rfl, ?_⟩))
   go_ret
   exact ⟨er_, nbe HB⟩
 ·replace c3 := Bool.eq_false_iff.mpr c3
  subst c3; have H1 : (some false) = some r := by rw [if_neg (show ¬ (false = true) by decide)] at H; exact H
  clear H; have H := H1; clear H1; obtain rfl := Option.some.inj H
  go_enter Try.func32, Try.ntmps32
  go_wp2_with (first | ((with_reducible refine gate_dst (N := 1) rfl ?_); refine bxe 1 #[.int .i64 a0_0, .bool a0_1, .int .i64 a0_2, .int .i64 a0_3, .int .i64 a0_4, .int .i64 a0_5] 39 ?_; intro dz hg em hbox hb; have bi := hbox; have dA := nge HB hg; have dB := nge HB hg; replace HB := nbs HB hb; clear hb hbox hg; obtain ⟨dJ, dK, dL, gD, gE, gF⟩ := c6e bi; obtain ⟨dM, dN, dO, gG, gH, gI⟩ := z6_ bi) | ((with_reducible refine gate_callee (f := 30) rfl ?_); refine goesM (some 5) rfl rfl Try.func30 (by kernel_rfl) rfl #[.int .i64 a0_0, .int .i64 0, .int .i64 65535] rfl ?_; (with_reducible refine (spec_l1In.calls a0_0 0 65535 false _ A2.out).mono ?_); rintro e w' ⟨rfl, ⟨nd, rfl⟩⟩; refine ⟨_, rfl, ?_⟩))
  go_ret
  exact ⟨er_, nbe HB⟩

end Go.Proofs.Ytbpalnplcgmjjaa.PFnExactWrite
