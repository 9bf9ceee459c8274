-- Written by a program of this session (wip/patch.py turns a copy of the kit's print): the functions that the law reaches, and their walks.
import Derived.Test.YtednioabjiabiaaPFnFilterx0
import Derived.Test.YtednioabjiabiaaPFnFilterx3
import Derived.Test.YtednioabjiabiaaCFnFilter
namespace Go.Proofs.Ytednioabjiabiaa.PFnFilter
open Go.RowKit Go.Proofs.YtednioabjiabiaaW.PrintWords Go.Proofs.YtednioabjiabiaaW.PrintLast Go.Proofs.YtednioabjiabiaaW.PrintMore Go.Proofs.YtednioabjiabiaaW.Mine
attribute [local go_sem] max2_int min2_int max_two min_two max_three min_three max_four min_four   -- for this text's walks alone
set_option linter.unusedVariables false
set_option linter.unusedSimpArgs false

/-! ### spec_Wide: function 70 -/
def spec_Wide.f (k : Nat) (a0 : Int) (a1 : Int) : Option (Int × Int) := (spec_Pack.f k a0 a1).bind fun bn => (if bn.2.2.2 = true then ((spec_Unpack.f bn.1 bn.2.1 bn.2.2.1).bind fun bi => (some (bi.1, bi.2.1))) else ((spec_BoundsOk.f a0 a1).bind fun bk => (if bk = true then (some (0, 4096)) else (some (0, 0)))))
theorem spec_Wide.mono : ∀ a0 a1 k, LeO (spec_Wide.f k a0 a1) (spec_Wide.f (k + 1) a0 a1) := by
 intro a0 a1 k
 unfold spec_Wide.f
 repeat' first
   | (with_reducible exact spec_Pack.mono _ _ _)
   | (with_reducible exact LeO.refl _)
   | (with_reducible exact LeO.none _)
   | (with_reducible refine LeO.ite ?_ ?_)
   | (with_reducible refine LeO.bind ?_ (fun _ => ?_))
   | exact spec_Pack.mono _ _ _
   | exact LeO.none _
   | refine LeO.ite ?_ ?_
   | refine LeO.bind ?_ (fun _ => ?_)
set_option maxHeartbeats 8000000 in
set_option maxRecDepth 100000 in
theorem spec_Wide.calls (k : Nat) (a0 : Int) (a1 : Int) (r1 : Int) (r2 : Int) (w : World) (h : spec_Wide.f k a0 a1 = some (r1, r2)) :
  Calls Try.prog 70 #[.int .i64 a0, .int .i64 a1] w fun e w' => e = .returned (.tuple #[.int .i64 r1, .int .i64 r2]) ∧ Below w.heap.size w w' := by
 have hu82 := Try.underlying82; have HB := Aside0.mk (Below.refl w.heap.size w); have H : ((spec_Pack.f k a0 a1).bind fun bn => (if bn.2.2.2 = true then ((spec_Unpack.f bn.1 bn.2.1 bn.2.2.1).bind fun bi => (some (bi.1, bi.2.1))) else ((spec_BoundsOk.f a0 a1).bind fun bk => (if bk = true then (some (0, 4096)) else (some (0, 0)))))) = some (r1, r2) := h; clear h; replace H := Option.bind_eq_some_iff.mp H; obtain ⟨⟨bo, bp, bq, bM⟩, A30, H⟩ := H; replace H : (if bM = true then ((spec_Unpack.f bo bp bq).bind fun bi => (some (bi.1, bi.2.1))) else ((spec_BoundsOk.f a0 a1).bind fun bk => (if bk = true then (some (0, 4096)) else (some (0, 0))))) = some (r1, r2) := H; have A3 := Aside0.mk A30; clear A30
 by_cases c4 : bM = true
 ·subst c4
  have H1 : ((spec_Unpack.f bo bp bq).bind fun bi => (some (bi.1, bi.2.1))) = some (r1, r2) := by rw [if_pos rfl] at H; exact H
  clear H; have H := H1; clear H1; replace H := Option.bind_eq_some_iff.mp H; obtain ⟨⟨bN, bO, b1⟩, A50, H⟩ := H; replace H : (some (bN, bO)) = some (r1, r2) := H; have A5 := Aside0.mk A50; clear A50; simp only [Option.some.injEq, Prod.mk.injEq] at H; obtain ⟨rfl, rfl⟩ := H
  go_enter Try.func70, Try.ntmps70
  go_wp2_with (first | ((with_reducible refine gate_callee (f := 75) rfl ?_); refine goesM (some 14) rfl rfl Try.func75 (by kernel_rfl) rfl #[.int .i64 a0, .int .i64 a1] rfl ?_; (with_reducible refine (spec_Pack.calls k a0 a1 bo bp bq true _ A3.out).mono ?_); rintro e w6 ⟨rfl, hb⟩; refine ⟨_, rfl, ?_⟩; replace HB := nbs HB hb; (try clear hb)) | ((with_reducible refine gate_dst (N := 6) rfl ?_); refine bxe 6 #[.int .i64 0, .int .i64 0, .int .i64 0] 82 ?_; intro bD hg w7 hbox hb; have bl := hbox; have bP := nge HB hg; have bQ := nge HB hg; replace HB := nbs HB hb; clear hb hbox hg; obtain ⟨b2, b3, b4⟩ := c3e bl; obtain ⟨b5, b6, b7⟩ := z3_ bl) | ((with_reducible refine gate_callee (f := 76) rfl ?_); refine goesM (some 24) rfl rfl Try.func76 (by kernel_rfl) rfl #[.agg #[.int .i64 bo, .int .i64 bp, .int .i64 bq]] rfl ?_; (with_reducible refine (spec_Unpack.calls bo bp bq bN bO b1 _ A5.out).mono ?_); rintro e w9 ⟨rfl, hb⟩; refine ⟨_, rfl, ?_⟩; replace bl := Aside0.mk (blk_below (g := bD) (o := .cells #[.int .i64 bo, .int .i64 bp, .int .i64 bq] 82 (0, 0)) (q3 bl) hb); replace HB := nbs HB hb; (try clear hb)))
  go_ret2
  exact ⟨er_, nbe HB⟩
 ·replace c4 := Bool.eq_false_iff.mpr c4
  subst c4; have H1 : ((spec_BoundsOk.f a0 a1).bind fun bk => (if bk = true then (some (0, 4096)) else (some (0, 0)))) = some (r1, r2) := by rw [if_neg (show ¬ (false = true) by decide)] at H; exact H
  clear H; have H := H1; clear H1; replace H := Option.bind_eq_some_iff.mp H; obtain ⟨bk, A100, H⟩ := H; replace H : (if bk = true then (some (0, 4096)) else (some (0, 0))) = some (r1, r2) := H; have A10 := Aside0.mk A100; clear A100
  by_cases c11 : bk = true
  ·subst c11
   have H1 : (some (0, 4096)) = some (r1, r2) := by rw [if_pos rfl] at H; exact H
   clear H; have H := H1; clear H1; simp only [Option.some.injEq, Prod.mk.injEq] at H; obtain ⟨rfl, rfl⟩ := H
   go_enter Try.func70, Try.ntmps70
   go_wp2_with (first | ((with_reducible refine gate_callee (f := 75) rfl ?_); refine goesM (some 14) rfl rfl Try.func75 (by kernel_rfl) rfl #[.int .i64 a0, .int .i64 a1] rfl ?_; (with_reducible refine (spec_Pack.calls k a0 a1 bo bp bq false _ A3.out).mono ?_); rintro e dG ⟨rfl, hb⟩; refine ⟨_, rfl, ?_⟩; replace HB := nbs HB hb; (try clear hb)) | ((with_reducible refine gate_dst (N := 6) rfl ?_); refine bxe 6 #[.int .i64 0, .int .i64 0, .int .i64 0] 82 ?_; intro bD hg b8 hbox hb; have bl := hbox; have bP := nge HB hg; have bQ := nge HB hg; replace HB := nbs HB hb; clear hb hbox hg; obtain ⟨bR, bS, bT⟩ := c3e bl; obtain ⟨bU, bV, bW⟩ := z3_ bl) | ((with_reducible refine gate_callee (f := 71) rfl ?_); refine goesM (some 21) rfl rfl Try.func71 (by kernel_rfl) rfl #[.int .i64 a0, .int .i64 a1] rfl ?_; (with_reducible refine (spec_BoundsOk.calls a0 a1 true _ A10.out).mono ?_); rintro e w' ⟨rfl, ⟨nd, rfl⟩⟩; refine ⟨_, rfl, ?_⟩))
   go_ret2
   exact ⟨er_, nbe HB⟩
  ·replace c11 := Bool.eq_false_iff.mpr c11
   subst c11; have H1 : (some (0, 0)) = some (r1, r2) := by rw [if_neg (show ¬ (false = true) by decide)] at H; exact H
   clear H; have H := H1; clear H1; simp only [Option.some.injEq, Prod.mk.injEq] at H; obtain ⟨rfl, rfl⟩ := H
   go_enter Try.func70, Try.ntmps70
   go_wp2_with (first | ((with_reducible refine gate_callee (f := 75) rfl ?_); refine goesM (some 14) rfl rfl Try.func75 (by kernel_rfl) rfl #[.int .i64 a0, .int .i64 a1] rfl ?_; (with_reducible refine (spec_Pack.calls k a0 a1 bo bp bq false _ A3.out).mono ?_); rintro e bX ⟨rfl, hb⟩; refine ⟨_, rfl, ?_⟩; replace HB := nbs HB hb; (try clear hb)) | ((with_reducible refine gate_dst (N := 6) rfl ?_); refine bxe 6 #[.int .i64 0, .int .i64 0, .int .i64 0] 82 ?_; intro bD hg dH hbox hb; have bl := hbox; have bP := nge HB hg; have bQ := nge HB hg; replace HB := nbs HB hb; clear hb hbox hg; obtain ⟨b9, da, db⟩ := c3e bl; obtain ⟨dc, dd, de⟩ := z3_ bl) | ((with_reducible refine gate_callee (f := 71) rfl ?_); refine goesM (some 21) rfl rfl Try.func71 (by kernel_rfl) rfl #[.int .i64 a0, .int .i64 a1] rfl ?_; (with_reducible refine (spec_BoundsOk.calls a0 a1 false _ A10.out).mono ?_); rintro e w' ⟨rfl, ⟨nd, rfl⟩⟩; refine ⟨_, rfl, ?_⟩))
   go_ret2
   exact ⟨er_, nbe HB⟩

/-! ### spec_Exact: function 66 -/
def spec_Exact.f (k : Nat) (a0 : Int) (a1 : Int) : Option (Bool) := (spec_Wide.f k a0 a1).bind fun bB => ((spec_BoundsOk.f a0 a1).bind fun br => (if br = true then (if bB.1 = a0 then (some (bB.2 == a1)) else (some false)) else (some false)))
theorem spec_Exact.mono : ∀ a0 a1 k, LeO (spec_Exact.f k a0 a1) (spec_Exact.f (k + 1) a0 a1) := by
 intro a0 a1 k
 unfold spec_Exact.f
 repeat' first
   | (with_reducible exact spec_Wide.mono _ _ _)
   | (with_reducible exact LeO.refl _)
   | (with_reducible exact LeO.none _)
   | (with_reducible refine LeO.ite ?_ ?_)
   | (with_reducible refine LeO.bind ?_ (fun _ => ?_))
   | exact spec_Wide.mono _ _ _
   | exact LeO.none _
   | refine LeO.ite ?_ ?_
   | refine LeO.bind ?_ (fun _ => ?_)
set_option maxHeartbeats 8000000 in
set_option maxRecDepth 100000 in
theorem spec_Exact.calls (k : Nat) (a0 : Int) (a1 : Int) (r : Bool) (w : World) (h : spec_Exact.f k a0 a1 = some r) :
  Calls Try.prog 66 #[.int .i64 a0, .int .i64 a1] w fun e w' => e = .returned (.bool r) ∧ Below w.heap.size w w' := by
 have HB := Aside0.mk (Below.refl w.heap.size w); have H : ((spec_Wide.f k a0 a1).bind fun bB => ((spec_BoundsOk.f a0 a1).bind fun br => (if br = true then (if bB.1 = a0 then (some (bB.2 == a1)) else (some false)) else (some false)))) = some r := h; clear h; replace H := Option.bind_eq_some_iff.mp H; obtain ⟨⟨bj, bz⟩, A30, H⟩ := H; replace H : ((spec_BoundsOk.f a0 a1).bind fun br => (if br = true then (if bj = a0 then (some (bz == a1)) else (some false)) else (some false))) = some r := H; have A3 := Aside0.mk A30; clear A30; replace H := Option.bind_eq_some_iff.mp H; obtain ⟨br, A40, H⟩ := H; replace H : (if br = true then (if bj = a0 then (some (bz == a1)) else (some false)) else (some false)) = some r := H; have A4 := Aside0.mk A40; clear A40
 by_cases c5 : br = true
 ·subst c5
  have H1 : (if bj = a0 then (some (bz == a1)) else (some false)) = some r := by rw [if_pos rfl] at H; exact H
  clear H; have H := H1; clear H1
  by_cases c6 : bj = a0
  ·rw [if_pos c6] at H
   have c6b0 : (bj == a0) = true := beq_iff_eq.mpr c6; have c6b1 : (bj != a0) = false := bne_eq_false_iff_eq.mpr c6; clear c6; obtain rfl := Option.some.inj H
   go_enter Try.func66, Try.ntmps66
   go_wp2_with (first | ((with_reducible refine gate_callee (f := 70) rfl ?_); refine goesM (some 10) rfl rfl Try.func70 (by kernel_rfl) rfl #[.int .i64 a0, .int .i64 a1] rfl ?_; (with_reducible refine (spec_Wide.calls k a0 a1 bj bz _ A3.out).mono ?_); rintro e w7 ⟨rfl, hb⟩; refine ⟨_, rfl, ?_⟩; replace HB := nbs HB hb; (try clear hb)) | ((with_reducible refine gate_callee (f := 71) rfl ?_); refine goesM (some 15) rfl rfl Try.func71 (by kernel_rfl) rfl #[.int .i64 a0, .int .i64 a1] rfl ?_; (with_reducible refine (spec_BoundsOk.calls a0 a1 true _ A4.out).mono ?_); rintro e w' ⟨rfl, ⟨nd, rfl⟩⟩; refine ⟨_, rfl, ?_⟩))
   go_ret
   exact ⟨er_, nbe HB⟩
  ·rw [if_neg c6] at H
   have c6b0 : (bj == a0) = false := beq_eq_false_iff_ne.mpr c6; have c6b1 : (bj != a0) = true := bne_iff_ne.mpr c6; obtain rfl := Option.some.inj H
   go_enter Try.func66, Try.ntmps66
   go_wp2_with (first | ((with_reducible refine gate_callee (f := 70) rfl ?_); refine goesM (some 10) rfl rfl Try.func70 (by kernel_rfl) rfl #[.int .i64 a0, .int .i64 a1] rfl ?_; (with_reducible refine (spec_Wide.calls k a0 a1 bj bz _ A3.out).mono ?_); rintro e w8 ⟨rfl, hb⟩; refine ⟨_, rfl, ?_⟩; replace HB := nbs HB hb; (try clear hb)) | ((with_reducible refine gate_callee (f := 71) rfl ?_); refine goesM (some 15) rfl rfl Try.func71 (by kernel_rfl) rfl #[.int .i64 a0, .int .i64 a1] rfl ?_; (with_reducible refine (spec_BoundsOk.calls a0 a1 true _ A4.out).mono ?_); rintro e w' ⟨rfl, ⟨nd, rfl⟩⟩; refine ⟨_, rfl, ?_⟩))
   go_ret
   exact ⟨er_, nbe HB⟩
 ·replace c5 := Bool.eq_false_iff.mpr c5
  subst c5; have H1 : (some false) = some r := by rw [if_neg (show ¬ (false = true) by decide)] at H; exact H
  clear H; have H := H1; clear H1; obtain rfl := Option.some.inj H
  go_enter Try.func66, Try.ntmps66
  go_wp2_with (first | ((with_reducible refine gate_callee (f := 70) rfl ?_); refine goesM (some 10) rfl rfl Try.func70 (by kernel_rfl) rfl #[.int .i64 a0, .int .i64 a1] rfl ?_; (with_reducible refine (spec_Wide.calls k a0 a1 bj bz _ A3.out).mono ?_); rintro e w9 ⟨rfl, hb⟩; refine ⟨_, rfl, ?_⟩; replace HB := nbs HB hb; (try clear hb)) | ((with_reducible refine gate_callee (f := 71) rfl ?_); refine goesM (some 15) rfl rfl Try.func71 (by kernel_rfl) rfl #[.int .i64 a0, .int .i64 a1] rfl ?_; (with_reducible refine (spec_BoundsOk.calls a0 a1 false _ A4.out).mono ?_); rintro e w' ⟨rfl, ⟨nd, rfl⟩⟩; refine ⟨_, rfl, ?_⟩))
  go_ret
  exact ⟨er_, nbe HB⟩

/-! ### spec_KeyOk: function 55 -/
def spec_KeyOk.f (k : Nat) (a0_0 : Int) (a0_1 : Int) (a0_2 : Int) (a0_3 : Int) : Option (Bool) := (spec_Exact.f k a0_0 a0_1).bind fun bA => (if bA = true then ((spec_l1In.f a0_2 0 63).bind fun bm => (if bm = true then ((spec_l1In.f a0_3 0 7).bind fun bf => (some bf)) else (some false))) else (some false))
theorem spec_KeyOk.mono : ∀ a0 a1 a2 a3 k, LeO (spec_KeyOk.f k a0 a1 a2 a3) (spec_KeyOk.f (k + 1) a0 a1 a2 a3) := by
 intro a0 a1 a2 a3 k
 unfold spec_KeyOk.f
 repeat' first
   | (with_reducible exact spec_Exact.mono _ _ _)
   | (with_reducible exact LeO.refl _)
   | (with_reducible exact LeO.none _)
   | (with_reducible refine LeO.ite ?_ ?_)
   | (with_reducible refine LeO.bind ?_ (fun _ => ?_))
   | exact spec_Exact.mono _ _ _
   | exact LeO.none _
   | refine LeO.ite ?_ ?_
   | refine LeO.bind ?_ (fun _ => ?_)
set_option maxHeartbeats 8000000 in
set_option maxRecDepth 100000 in
theorem spec_KeyOk.calls (k : Nat) (a0_0 : Int) (a0_1 : Int) (a0_2 : Int) (a0_3 : Int) (r : Bool) (w : World) (h : spec_KeyOk.f k a0_0 a0_1 a0_2 a0_3 = some r) :
  Calls Try.prog 55 #[.agg #[.int .i64 a0_0, .int .i64 a0_1, .int .i64 a0_2, .int .i64 a0_3]] w fun e w' => e = .returned (.bool r) ∧ Below w.heap.size w w' := by
 have hu34 := Try.underlying34; have HB := Aside0.mk (Below.refl w.heap.size w); have H : ((spec_Exact.f k a0_0 a0_1).bind fun bA => (if bA = true then ((spec_l1In.f a0_2 0 63).bind fun bm => (if bm = true then ((spec_l1In.f a0_3 0 7).bind fun bf => (some bf)) else (some false))) else (some false))) = some r := h; clear h; replace H := Option.bind_eq_some_iff.mp H; obtain ⟨bA, A20, H⟩ := H; replace H : (if bA = true then ((spec_l1In.f a0_2 0 63).bind fun bm => (if bm = true then ((spec_l1In.f a0_3 0 7).bind fun bf => (some bf)) else (some false))) else (some false)) = some r := H; have A2 := Aside0.mk A20; clear A20
 by_cases c3 : bA = true
 ·subst c3
  have H1 : ((spec_l1In.f a0_2 0 63).bind fun bm => (if bm = true then ((spec_l1In.f a0_3 0 7).bind fun bf => (some bf)) else (some false))) = some r := by rw [if_pos rfl] at H; exact H
  clear H; have H := H1; clear H1; replace H := Option.bind_eq_some_iff.mp H; obtain ⟨bm, A40, H⟩ := H; replace H : (if bm = true then ((spec_l1In.f a0_3 0 7).bind fun bf => (some bf)) else (some false)) = some r := H; have A4 := Aside0.mk A40; clear A40
  by_cases c5 : bm = true
  ·subst c5
   have H1 : ((spec_l1In.f a0_3 0 7).bind fun bf => (some bf)) = some r := by rw [if_pos rfl] at H; exact H
   clear H; have H := H1; clear H1; replace H := Option.bind_eq_some_iff.mp H; obtain ⟨bf, A60, H⟩ := H; replace H : (some bf) = some r := H; have A6 := Aside0.mk A60; clear A60; obtain rfl := Option.some.inj H
   go_enter Try.func55, Try.ntmps55
   go_wp2_with (first | ((with_reducible refine gate_dst (N := 1) rfl ?_); refine bxe 1 #[.int .i64 a0_0, .int .i64 a0_1, .int .i64 a0_2, .int .i64 a0_3] 34 ?_; intro bY hg w7 hbox hb; have bc := hbox; have bZ := nge HB hg; have b0 := nge HB hg; replace HB := nbs HB hb; clear hb hbox hg; obtain ⟨b2, b3, b4, dI⟩ := c4e bc; obtain ⟨b5, b6, b7, dJ⟩ := z4_ bc) | ((with_reducible refine gate_callee (f := 66) rfl ?_); refine goesM (some 7) rfl rfl Try.func66 (by kernel_rfl) rfl #[.int .i64 a0_0, .int .i64 a0_1] rfl ?_; (with_reducible refine (spec_Exact.calls k a0_0 a0_1 true _ A2.out).mono ?_); rintro e w9 ⟨rfl, hb⟩; refine ⟨_, rfl, ?_⟩; replace bc := nblk bc hb; replace HB := nbs HB hb; (try clear hb); obtain ⟨dK, dL, dM, dN⟩ := c4e bc; obtain ⟨dO, dP, dQ, dR⟩ := z4_ bc) | (go_at_call 29; (with_reducible refine (spec_l1In.calls a0_2 0 63 true _ A4.out).mono ?_); rintro e w' ⟨rfl, ⟨nd, rfl⟩⟩) | (go_at_call 29; (with_reducible refine (spec_l1In.calls a0_3 0 7 bf _ A6.out).mono ?_); rintro e w' ⟨rfl, ⟨nd, rfl⟩⟩))
   go_ret
   exact ⟨er_, nbe HB⟩
  ·replace c5 := Bool.eq_false_iff.mpr c5
   subst c5; have H1 : (some false) = some r := by rw [if_neg (show ¬ (false = true) by decide)] at H; exact H
   clear H; have H := H1; clear H1; obtain rfl := Option.some.inj H
   go_enter Try.func55, Try.ntmps55
   go_wp2_with (first | ((with_reducible refine gate_dst (N := 1) rfl ?_); refine bxe 1 #[.int .i64 a0_0, .int .i64 a0_1, .int .i64 a0_2, .int .i64 a0_3] 34 ?_; intro bY hg dS hbox hb; have bc := hbox; have bZ := nge HB hg; have b0 := nge HB hg; replace HB := nbs HB hb; clear hb hbox hg; obtain ⟨df, dg, dh, di⟩ := c4e bc; obtain ⟨dj, dk, dl, dm⟩ := z4_ bc) | ((with_reducible refine gate_callee (f := 66) rfl ?_); refine goesM (some 7) rfl rfl Try.func66 (by kernel_rfl) rfl #[.int .i64 a0_0, .int .i64 a0_1] rfl ?_; (with_reducible refine (spec_Exact.calls k a0_0 a0_1 true _ A2.out).mono ?_); rintro e b8 ⟨rfl, hb⟩; refine ⟨_, rfl, ?_⟩; replace bc := nblk bc hb; replace HB := nbs HB hb; (try clear hb); obtain ⟨bR, bS, bT, dn⟩ := c4e bc; obtain ⟨bU, bV, bW, dp⟩ := z4_ bc) | (go_at_call 29; (with_reducible refine (spec_l1In.calls a0_2 0 63 false _ A4.out).mono ?_); rintro e w' ⟨rfl, ⟨nd, rfl⟩⟩))
   go_ret
   exact ⟨er_, nbe HB⟩
 ·replace c3 := Bool.eq_false_iff.mpr c3
  subst c3; have H1 : (some false) = some r := by rw [if_neg (show ¬ (false = true) by decide)] at H; exact H
  clear H; have H := H1; clear H1; obtain rfl := Option.some.inj H
  go_enter Try.func55, Try.ntmps55
  go_wp2_with (first | ((with_reducible refine gate_dst (N := 1) rfl ?_); refine bxe 1 #[.int .i64 a0_0, .int .i64 a0_1, .int .i64 a0_2, .int .i64 a0_3] 34 ?_; intro bY hg bX hbox hb; have bc := hbox; have bZ := nge HB hg; have b0 := nge HB hg; replace HB := nbs HB hb; clear hb hbox hg; obtain ⟨dq, dr, ds, dt⟩ := c4e bc; obtain ⟨du, dv, dw, dx⟩ := z4_ bc) | ((with_reducible refine gate_callee (f := 66) rfl ?_); refine goesM (some 7) rfl rfl Try.func66 (by kernel_rfl) rfl #[.int .i64 a0_0, .int .i64 a0_1] rfl ?_; (with_reducible refine (spec_Exact.calls k a0_0 a0_1 false _ A2.out).mono ?_); rintro e dT ⟨rfl, hb⟩; refine ⟨_, rfl, ?_⟩; replace bc := nblk bc hb; replace HB := nbs HB hb; (try clear hb)))
  go_ret
  exact ⟨er_, nbe HB⟩

/-! ### spec_KeyWord: function 64 -/
def spec_KeyWord.f (k : Nat) (a0_0 : Int) (a0_1 : Int) (a0_2 : Int) (a0_3 : Int) (a1 : Int) : Option (Int × Bool × Int × Int × Int × Int) := (spec_Plain.f a1).bind fun bd => ((spec_KeyOk.f k a0_0 a0_1 a0_2 a0_3).bind fun bs => (if bs = true then (some (bd.1, true, a0_0, a0_1, a0_2, a0_3)) else (some (bd.1, bd.2.1, bd.2.2.1, bd.2.2.2.1, bd.2.2.2.2.1, bd.2.2.2.2.2))))
theorem spec_KeyWord.mono : ∀ a0 a1 a2 a3 a4 k, LeO (spec_KeyWord.f k a0 a1 a2 a3 a4) (spec_KeyWord.f (k + 1) a0 a1 a2 a3 a4) := by
 intro a0 a1 a2 a3 a4 k
 unfold spec_KeyWord.f
 repeat' first
   | (with_reducible exact spec_KeyOk.mono _ _ _ _ _)
   | (with_reducible exact LeO.refl _)
   | (with_reducible exact LeO.none _)
   | (with_reducible refine LeO.ite ?_ ?_)
   | (with_reducible refine LeO.bind ?_ (fun _ => ?_))
   | exact spec_KeyOk.mono _ _ _ _ _
   | exact LeO.none _
   | refine LeO.ite ?_ ?_
   | refine LeO.bind ?_ (fun _ => ?_)
set_option maxHeartbeats 8000000 in
set_option maxRecDepth 100000 in
theorem spec_KeyWord.calls (k : Nat) (a0_0 : Int) (a0_1 : Int) (a0_2 : Int) (a0_3 : Int) (a1 : Int) (r1 : Int) (r2 : Bool) (r3 : Int) (r4 : Int) (r5 : Int) (r6 : Int) (w : World) (h : spec_KeyWord.f k a0_0 a0_1 a0_2 a0_3 a1 = some (r1, r2, r3, r4, r5, r6)) :
  Calls Try.prog 64 #[.agg #[.int .i64 a0_0, .int .i64 a0_1, .int .i64 a0_2, .int .i64 a0_3], .int .i64 a1] w fun e w' => e = .returned (.agg #[.int .i64 r1, .bool r2, .int .i64 r3, .int .i64 r4, .int .i64 r5, .int .i64 r6]) ∧ Below w.heap.size w w' := by
 have hu34 := Try.underlying34; have hu36 := Try.underlying36; have HB := Aside0.mk (Below.refl w.heap.size w); have H : ((spec_Plain.f a1).bind fun bd => ((spec_KeyOk.f k a0_0 a0_1 a0_2 a0_3).bind fun bs => (if bs = true then (some (bd.1, true, a0_0, a0_1, a0_2, a0_3)) else (some (bd.1, bd.2.1, bd.2.2.1, bd.2.2.2.1, bd.2.2.2.2.1, bd.2.2.2.2.2))))) = some (r1, r2, r3, r4, r5, r6) := h; clear h; replace H := Option.bind_eq_some_iff.mp H; obtain ⟨⟨bh, bt, bu, bv, bw, bx⟩, A30, H⟩ := H; replace H : ((spec_KeyOk.f k a0_0 a0_1 a0_2 a0_3).bind fun bs => (if bs = true then (some (bh, true, a0_0, a0_1, a0_2, a0_3)) else (some (bh, bt, bu, bv, bw, bx)))) = some (r1, r2, r3, r4, r5, r6) := H; have A3 := Aside0.mk A30; clear A30; replace H := Option.bind_eq_some_iff.mp H; obtain ⟨bs, A40, H⟩ := H; replace H : (if bs = true then (some (bh, true, a0_0, a0_1, a0_2, a0_3)) else (some (bh, bt, bu, bv, bw, bx))) = some (r1, r2, r3, r4, r5, r6) := H; have A4 := Aside0.mk A40; clear A40
 by_cases c5 : bs = true
 ·subst c5
  have H1 : (some (bh, true, a0_0, a0_1, a0_2, a0_3)) = some (r1, r2, r3, r4, r5, r6) := by rw [if_pos rfl] at H; exact H
  clear H; have H := H1; clear H1; simp only [Option.some.injEq, Prod.mk.injEq] at H; obtain ⟨rfl, rfl, rfl, rfl, rfl, rfl⟩ := H
  go_enter Try.func64, Try.ntmps64
  go_wp2_with (first | ((with_reducible refine gate_dst (N := 2) rfl ?_); refine bxe 2 #[.int .i64 a0_0, .int .i64 a0_1, .int .i64 a0_2, .int .i64 a0_3] 34 ?_; intro dy hg w6 hbox hb; have ba := hbox; have dz := nge HB hg; have dA := nge HB hg; replace HB := nbs HB hb; clear hb hbox hg) | ((with_reducible refine gate_dst (N := 4) rfl ?_); refine bxe 4 #[.int .i64 0, .bool false, .int .i64 0, .int .i64 0, .int .i64 0, .int .i64 0] 36 ?_; intro bE hg w7 hbox hb; have bb := hbox; have dB := nge HB hg; have dC := nge HB hg; have bF := nlt ba hg; have bG := ngt ba hg; replace ba := nblk ba hb; replace HB := nbs HB hb; clear hb hbox hg) | ((with_reducible refine gate_callee (f := 58) rfl ?_); refine goesM (some 7) rfl rfl Try.func58 (by kernel_rfl) rfl #[.int .i64 a1] rfl ?_; (with_reducible refine (spec_Plain.calls a1 bh bt bu bv bw bx _ A3.out).mono ?_); rintro e w8 ⟨rfl, hb⟩; refine ⟨_, rfl, ?_⟩; replace ba := nblk ba hb; replace bb := nblk bb hb; replace HB := nbs HB hb; (try clear hb)) | ((with_reducible refine gate_dst (N := 5) rfl ?_); refine bxe 5 #[.int .i64 0, .bool false, .int .i64 0, .int .i64 0, .int .i64 0, .int .i64 0] 36 ?_; intro bH hg w9 hbox hb; have bg := hbox; have dD := nge HB hg; have dE := nge HB hg; have bI := nlt ba hg; have bJ := ngt ba hg; have bC := nlt bb hg; have bK := ngt bb hg; replace ba := nblk ba hb; replace bb := nblk bb hb; replace HB := nbs HB hb; clear hb hbox hg; have dU := bJ.out; have dV := bI.out; have dW := bK.out; have dX := bC.out; obtain ⟨df, dg, dh, di, dY, dZ⟩ := c6e bg; obtain ⟨dj, dk, dl, dm, d0, d1⟩ := z6_ bg; have d2 := bF.out; have d3 := bG.out; obtain ⟨bR, bS, bT, dn⟩ := c4e ba; obtain ⟨bU, bV, bW, dp⟩ := z4_ ba) | ((with_reducible refine gate_callee (f := 55) rfl ?_); refine goesM (some 9) rfl rfl Try.func55 (by kernel_rfl) rfl #[.agg #[.int .i64 a0_0, .int .i64 a0_1, .int .i64 a0_2, .int .i64 a0_3]] rfl ?_; (with_reducible refine (spec_KeyOk.calls k a0_0 a0_1 a0_2 a0_3 true _ A4.out).mono ?_); rintro e bX ⟨rfl, hb⟩; refine ⟨_, rfl, ?_⟩; replace ba := nblk ba hb; replace bb := nblk bb hb; replace bg := Aside0.mk (blk_below (g := bH) (o := .cells #[.int .i64 bh, .bool bt, .int .i64 bu, .int .i64 bv, .int .i64 bw, .int .i64 bx] 36 (0, 0)) (q6 bg) hb); replace HB := nbs HB hb; (try clear hb); obtain ⟨dq, dr, ds, dt, d4, d5⟩ := c6e bg; obtain ⟨du, dv, dw, dx, d6, d7⟩ := z6_ bg; obtain ⟨b9, da, db, d8⟩ := c4e ba; obtain ⟨dc, dd, de, d9⟩ := z4_ ba; obtain ⟨ea, eb, ec, ed, ee, ef⟩ := c6e bb; obtain ⟨eg, eh, ei, ej, ek, el⟩ := z6_ bb))
  refine bodyPost_ret (results_cell_row rfl _ _ bE 36 #[.int .i64 bh, .bool true, .int .i64 a0_0, .int .i64 a0_1, .int .i64 a0_2, .int .i64 a0_3] (0, 0) _ rfl (p6 bb (k5_ bC.out (nb bb))) Try.underlying36 rfl (by kernel_rfl)) rfl ?_; exact ⟨er_, nbe HB⟩
 ·replace c5 := Bool.eq_false_iff.mpr c5
  subst c5; have H1 : (some (bh, bt, bu, bv, bw, bx)) = some (r1, r2, r3, r4, r5, r6) := by rw [if_neg (show ¬ (false = true) by decide)] at H; exact H
  clear H; have H := H1; clear H1; simp only [Option.some.injEq, Prod.mk.injEq] at H; obtain ⟨rfl, rfl, rfl, rfl, rfl, rfl⟩ := H
  go_enter Try.func64, Try.ntmps64
  go_wp2_with (first | ((with_reducible refine gate_dst (N := 2) rfl ?_); refine bxe 2 #[.int .i64 a0_0, .int .i64 a0_1, .int .i64 a0_2, .int .i64 a0_3] 34 ?_; intro dy hg em hbox hb; have ba := hbox; have dz := nge HB hg; have dA := nge HB hg; replace HB := nbs HB hb; clear hb hbox hg) | ((with_reducible refine gate_dst (N := 4) rfl ?_); refine bxe 4 #[.int .i64 0, .bool false, .int .i64 0, .int .i64 0, .int .i64 0, .int .i64 0] 36 ?_; intro bE hg en hbox hb; have bb := hbox; have dB := nge HB hg; have dC := nge HB hg; have bF := nlt ba hg; have bG := ngt ba hg; replace ba := nblk ba hb; replace HB := nbs HB hb; clear hb hbox hg) | ((with_reducible refine gate_callee (f := 58) rfl ?_); refine goesM (some 7) rfl rfl Try.func58 (by kernel_rfl) rfl #[.int .i64 a1] rfl ?_; (with_reducible refine (spec_Plain.calls a1 bh bt bu bv bw bx _ A3.out).mono ?_); rintro e eo ⟨rfl, hb⟩; refine ⟨_, rfl, ?_⟩; replace ba := nblk ba hb; replace bb := nblk bb hb; replace HB := nbs HB hb; (try clear hb)) | ((with_reducible refine gate_dst (N := 5) rfl ?_); refine bxe 5 #[.int .i64 0, .bool false, .int .i64 0, .int .i64 0, .int .i64 0, .int .i64 0] 36 ?_; intro bH hg ep hbox hb; have bg := hbox; have dD := nge HB hg; have dE := nge HB hg; have bI := nlt ba hg; have bJ := ngt ba hg; have bC := nlt bb hg; have bK := ngt bb hg; replace ba := nblk ba hb; replace bb := nblk bb hb; replace HB := nbs HB hb; clear hb hbox hg; have er := bJ.out; have es := bI.out; have et := bK.out; have eu := bC.out; obtain ⟨ev, ew, ex, ey, ez, eA⟩ := c6e bg; obtain ⟨eB, eC, eD, eE, eF, eG⟩ := z6_ bg; have eH := bF.out; have eI := bG.out; obtain ⟨eJ, eK, eL, eM⟩ := c4e ba; obtain ⟨eN, eO, eP, eQ⟩ := z4_ ba) | ((with_reducible refine gate_callee (f := 55) rfl ?_); refine goesM (some 9) rfl rfl Try.func55 (by kernel_rfl) rfl #[.agg #[.int .i64 a0_0, .int .i64 a0_1, .int .i64 a0_2, .int .i64 a0_3]] rfl ?_; (with_reducible refine (spec_KeyOk.calls k a0_0 a0_1 a0_2 a0_3 false _ A4.out).mono ?_); rintro e eR ⟨rfl, hb⟩; refine ⟨_, rfl, ?_⟩; replace ba := nblk ba hb; replace bb := nblk bb hb; replace bg := Aside0.mk (blk_below (g := bH) (o := .cells #[.int .i64 bh, .bool bt, .int .i64 bu, .int .i64 bv, .int .i64 bw, .int .i64 bx] 36 (0, 0)) (q6 bg) hb); replace HB := nbs HB hb; (try clear hb); obtain ⟨eS, eT, eU, eV, eW, eX⟩ := c6e bg; obtain ⟨eY, eZ, e0, e1, e2, e3⟩ := z6_ bg; obtain ⟨e4, e5, e6, e7, e8, e9⟩ := c6e bb; obtain ⟨ga, gb, gc, gd, gf, gg⟩ := z6_ bb))
  refine bodyPost_ret (results_cell_row rfl _ _ bE 36 #[.int .i64 bh, .bool bt, .int .i64 bu, .int .i64 bv, .int .i64 bw, .int .i64 bx] (0, 0) _ rfl (q6 bb) Try.underlying36 rfl (by kernel_rfl)) rfl ?_; exact ⟨er_, nbe HB⟩

/-! ### spec_Root: function 72 -/
def spec_Root.f  : Option (Int × Int × Int × Int) := some (0, 4096, 63, 0)
set_option maxHeartbeats 8000000 in
set_option maxRecDepth 100000 in
theorem spec_Root.calls  (r1 : Int) (r2 : Int) (r3 : Int) (r4 : Int) (w : World) (h : spec_Root.f  = some (r1, r2, r3, r4)) :
  Calls Try.prog 72 #[] w fun e w' => e = .returned (.agg #[.int .i64 r1, .int .i64 r2, .int .i64 r3, .int .i64 r4]) ∧ Below w.heap.size w w' := by
 have hu34 := Try.underlying34; have HB := Aside0.mk (Below.refl w.heap.size w); have H : (some (0, 4096, 63, 0)) = some (r1, r2, r3, r4) := h; clear h; simp only [Option.some.injEq, Prod.mk.injEq] at H; obtain ⟨rfl, rfl, rfl, rfl⟩ := H
 go_enter Try.func72, Try.ntmps72
 go_wp2_with (first | ((with_reducible refine gate_dst (N := 0) rfl ?_); refine bxe 0 #[.int .i64 0, .int .i64 0, .int .i64 0, .int .i64 0] 34 ?_; intro dF hg w1 hbox hb; have bL := hbox; have gh := nge HB hg; have gi := nge HB hg; replace HB := nbs HB hb; clear hb hbox hg; obtain ⟨gj, gl, gm, gn⟩ := c4e bL; obtain ⟨gp, gq, gr, gs⟩ := z4_ bL))
 refine bodyPost_ret (results_cell_row rfl _ _ dF 34 #[.int .i64 0, .int .i64 4096, .int .i64 63, .int .i64 0] (0, 0) _ rfl (q4 bL) Try.underlying34 rfl (by kernel_rfl)) rfl ?_; exact ⟨er_, nbe HB⟩

end Go.Proofs.Ytednioabjiabiaa.PFnFilter
