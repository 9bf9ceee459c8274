-- Written by a program of this session (wip/patch.py turns a copy of the kit's print): the functions that the law reaches, and their walks.
import Derived.Test.YtednioabjiabiaaPFnMemoryx0
import Derived.Test.YtednioabjiabiaaPFnMemoryx1
import Derived.Test.YtednioabjiabiaaPFnMemoryx4
import Derived.Test.YtednioabjiabiaaCFnMemory
namespace Go.Proofs.Ytednioabjiabiaa.PFnMemory
open Go.RowKit Go.Proofs.YtednioabjiabiaaW.PrintWords Go.Proofs.YtednioabjiabiaaW.PrintLast Go.Proofs.YtednioabjiabiaaW.PrintMore Go.Proofs.YtednioabjiabiaaW.Mine
attribute [local go_sem] max2_int min2_int max_two min_two max_three min_three max_four min_four   -- for this text's walks alone
set_option linter.unusedVariables false
set_option linter.unusedSimpArgs false

attribute [local go_sem high] eqA34
/-! ### impl_KeyOk: function 41 -/
def impl_KeyOk.f (k : Nat) (a0_0 : Int) (a0_1 : Int) (a0_2 : Int) (a0_3 : Int) : Option (Bool) := (impl_Exact.f k a0_0 a0_1).bind fun bo => (if bo = true then ((impl_in.f a0_2 0 63).bind fun bk => (if bk = true then ((impl_in.f a0_3 0 7).bind fun bg => (some bg)) else (some false))) else (some false))
theorem impl_KeyOk.mono : ∀ a0 a1 a2 a3 k, LeO (impl_KeyOk.f k a0 a1 a2 a3) (impl_KeyOk.f (k + 1) a0 a1 a2 a3) := by
 intro a0 a1 a2 a3 k
 unfold impl_KeyOk.f
 repeat' first
   | (with_reducible exact impl_Exact.mono _ _ _)
   | (with_reducible exact LeO.refl _)
   | (with_reducible exact LeO.none _)
   | (with_reducible refine LeO.ite ?_ ?_)
   | (with_reducible refine LeO.bind ?_ (fun _ => ?_))
   | exact impl_Exact.mono _ _ _
   | exact LeO.none _
   | refine LeO.ite ?_ ?_
   | refine LeO.bind ?_ (fun _ => ?_)
set_option maxHeartbeats 8000000 in
set_option maxRecDepth 100000 in
theorem impl_KeyOk.calls (k : Nat) (a0_0 : Int) (a0_1 : Int) (a0_2 : Int) (a0_3 : Int) (r : Bool) (w : World) (h : impl_KeyOk.f k a0_0 a0_1 a0_2 a0_3 = some r) :
  Calls Try.prog 41 #[.agg #[.int .i64 a0_0, .int .i64 a0_1, .int .i64 a0_2, .int .i64 a0_3]] w fun e w' => e = .returned (.bool r) ∧ Below w.heap.size w w' := by
 have hu34 := Try.underlying34; have HB := Aside0.mk (Below.refl w.heap.size w); have H : ((impl_Exact.f k a0_0 a0_1).bind fun bo => (if bo = true then ((impl_in.f a0_2 0 63).bind fun bk => (if bk = true then ((impl_in.f a0_3 0 7).bind fun bg => (some bg)) else (some false))) else (some false))) = some r := h; clear h; replace H := Option.bind_eq_some_iff.mp H; obtain ⟨bo, A20, H⟩ := H; replace H : (if bo = true then ((impl_in.f a0_2 0 63).bind fun bk => (if bk = true then ((impl_in.f a0_3 0 7).bind fun bg => (some bg)) else (some false))) else (some false)) = some r := H; have A2 := Aside0.mk A20; clear A20
 by_cases c3 : bo = true
 ·subst c3
  have H1 : ((impl_in.f a0_2 0 63).bind fun bk => (if bk = true then ((impl_in.f a0_3 0 7).bind fun bg => (some bg)) else (some false))) = some r := by rw [if_pos rfl] at H; exact H
  clear H; have H := H1; clear H1; replace H := Option.bind_eq_some_iff.mp H; obtain ⟨bk, A40, H⟩ := H; replace H : (if bk = true then ((impl_in.f a0_3 0 7).bind fun bg => (some bg)) else (some false)) = some r := H; have A4 := Aside0.mk A40; clear A40
  by_cases c5 : bk = true
  ·subst c5
   have H1 : ((impl_in.f a0_3 0 7).bind fun bg => (some bg)) = some r := by rw [if_pos rfl] at H; exact H
   clear H; have H := H1; clear H1; replace H := Option.bind_eq_some_iff.mp H; obtain ⟨bg, A60, H⟩ := H; replace H : (some bg) = some r := H; have A6 := Aside0.mk A60; clear A60; obtain rfl := Option.some.inj H
   go_enter Try.func41, Try.ntmps41
   go_wp2_with (first | ((with_reducible refine gate_dst (N := 1) rfl ?_); refine bxe 1 #[.int .i64 a0_0, .int .i64 a0_1, .int .i64 a0_2, .int .i64 a0_3] 34 ?_; intro bV hg w7 hbox hb; have bf := hbox; have bW := nge HB hg; have bX := nge HB hg; replace HB := nbs HB hb; clear hb hbox hg; obtain ⟨bY, bZ, b0, b1⟩ := c4e bf; obtain ⟨b2, b3, b4, b5⟩ := z4_ bf) | ((with_reducible refine gate_callee (f := 59) rfl ?_); refine goesM (some 7) rfl rfl Try.func59 (by kernel_rfl) rfl #[.int .i64 a0_0, .int .i64 a0_1] rfl ?_; (with_reducible refine (impl_Exact.calls k a0_0 a0_1 true _ A2.out).mono ?_); rintro e w9 ⟨rfl, hb⟩; refine ⟨_, rfl, ?_⟩; replace bf := nblk bf hb; replace HB := nbs HB hb; (try clear hb); obtain ⟨bq, br, bs, bt⟩ := c4e bf; obtain ⟨bu, bv, bw, bx⟩ := z4_ bf) | (go_at_call 27; (with_reducible refine (impl_in.calls a0_2 0 63 true _ A4.out).mono ?_); rintro e w' ⟨rfl, ⟨nd, rfl⟩⟩) | (go_at_call 27; (with_reducible refine (impl_in.calls a0_3 0 7 bg _ A6.out).mono ?_); rintro e w' ⟨rfl, ⟨nd, rfl⟩⟩))
   go_ret
   exact ⟨er_, nbe HB⟩
  ·replace c5 := Bool.eq_false_iff.mpr c5
   subst c5; have H1 : (some false) = some r := by rw [if_neg (show ¬ (false = true) by decide)] at H; exact H
   clear H; have H := H1; clear H1; obtain rfl := Option.some.inj H
   go_enter Try.func41, Try.ntmps41
   go_wp2_with (first | ((with_reducible refine gate_dst (N := 1) rfl ?_); refine bxe 1 #[.int .i64 a0_0, .int .i64 a0_1, .int .i64 a0_2, .int .i64 a0_3] 34 ?_; intro bV hg df hbox hb; have bf := hbox; have bW := nge HB hg; have bX := nge HB hg; replace HB := nbs HB hb; clear hb hbox hg; obtain ⟨dN, dO, dP, dQ⟩ := c4e bf; obtain ⟨dR, dS, dT, dU⟩ := z4_ bf) | ((with_reducible refine gate_callee (f := 59) rfl ?_); refine goesM (some 7) rfl rfl Try.func59 (by kernel_rfl) rfl #[.int .i64 a0_0, .int .i64 a0_1] rfl ?_; (with_reducible refine (impl_Exact.calls k a0_0 a0_1 true _ A2.out).mono ?_); rintro e dg ⟨rfl, hb⟩; refine ⟨_, rfl, ?_⟩; replace bf := nblk bf hb; replace HB := nbs HB hb; (try clear hb); obtain ⟨b6, b7, b8, b9⟩ := c4e bf; obtain ⟨da, db, dc, dd⟩ := z4_ bf) | (go_at_call 27; (with_reducible refine (impl_in.calls a0_2 0 63 false _ A4.out).mono ?_); rintro e w' ⟨rfl, ⟨nd, rfl⟩⟩))
   go_ret
   exact ⟨er_, nbe HB⟩
 ·replace c3 := Bool.eq_false_iff.mpr c3
  subst c3; have H1 : (some false) = some r := by rw [if_neg (show ¬ (false = true) by decide)] at H; exact H
  clear H; have H := H1; clear H1; obtain rfl := Option.some.inj H
  go_enter Try.func41, Try.ntmps41
  go_wp2_with (first | ((with_reducible refine gate_dst (N := 1) rfl ?_); refine bxe 1 #[.int .i64 a0_0, .int .i64 a0_1, .int .i64 a0_2, .int .i64 a0_3] 34 ?_; intro bV hg dh hbox hb; have bf := hbox; have bW := nge HB hg; have bX := nge HB hg; replace HB := nbs HB hb; clear hb hbox hg; obtain ⟨di, dj, dk, dl⟩ := c4e bf; obtain ⟨dm, dn, dp, dq⟩ := z4_ bf) | ((with_reducible refine gate_callee (f := 59) rfl ?_); refine goesM (some 7) rfl rfl Try.func59 (by kernel_rfl) rfl #[.int .i64 a0_0, .int .i64 a0_1] rfl ?_; (with_reducible refine (impl_Exact.calls k a0_0 a0_1 false _ A2.out).mono ?_); rintro e dr ⟨rfl, hb⟩; refine ⟨_, rfl, ?_⟩; replace bf := nblk bf hb; replace HB := nbs HB hb; (try clear hb)))
  go_ret
  exact ⟨er_, nbe HB⟩

/-! ### impl_WordOk: function 35 -/
def impl_WordOk.f (k : Nat) (a0_0 : Int) (a0_1 : Bool) (a0_2 : Int) (a0_3 : Int) (a0_4 : Int) (a0_5 : Int) : Option (Bool) := if a0_1 = true then ((impl_in.f a0_0 0 65535).bind fun bm => (if bm = true then ((impl_KeyOk.f k a0_2 a0_3 a0_4 a0_5).bind fun bj => (some bj)) else (some false))) else ((impl_in.f a0_0 0 65535).bind fun bn => (if bn = true then (some (a0_2 == 0 && (a0_3 == 0 && (a0_4 == 0 && (a0_5 == 0))))) else (some false)))
theorem impl_WordOk.mono : ∀ a0 a1 a2 a3 a4 a5 k, LeO (impl_WordOk.f k a0 a1 a2 a3 a4 a5) (impl_WordOk.f (k + 1) a0 a1 a2 a3 a4 a5) := by
 intro a0 a1 a2 a3 a4 a5 k
 unfold impl_WordOk.f
 repeat' first
   | (with_reducible exact impl_KeyOk.mono _ _ _ _ _)
   | (with_reducible exact LeO.refl _)
   | (with_reducible exact LeO.none _)
   | (with_reducible refine LeO.ite ?_ ?_)
   | (with_reducible refine LeO.bind ?_ (fun _ => ?_))
   | exact impl_KeyOk.mono _ _ _ _ _
   | exact LeO.none _
   | refine LeO.ite ?_ ?_
   | refine LeO.bind ?_ (fun _ => ?_)
set_option maxHeartbeats 8000000 in
set_option maxRecDepth 100000 in
theorem impl_WordOk.calls (k : Nat) (a0_0 : Int) (a0_1 : Bool) (a0_2 : Int) (a0_3 : Int) (a0_4 : Int) (a0_5 : Int) (r : Bool) (w : World) (h : impl_WordOk.f k a0_0 a0_1 a0_2 a0_3 a0_4 a0_5 = some r) :
  Calls Try.prog 35 #[.agg #[.int .i64 a0_0, .bool a0_1, .int .i64 a0_2, .int .i64 a0_3, .int .i64 a0_4, .int .i64 a0_5]] w fun e w' => e = .returned (.bool r) ∧ Below w.heap.size w w' := by
 have hu36 := Try.underlying36; have hu34 := Try.underlying34; have HB := Aside0.mk (Below.refl w.heap.size w); have H : (if a0_1 = true then ((impl_in.f a0_0 0 65535).bind fun bm => (if bm = true then ((impl_KeyOk.f k a0_2 a0_3 a0_4 a0_5).bind fun bj => (some bj)) else (some false))) else ((impl_in.f a0_0 0 65535).bind fun bn => (if bn = true then (some (a0_2 == 0 && (a0_3 == 0 && (a0_4 == 0 && (a0_5 == 0))))) else (some false)))) = some r := h; clear h
 by_cases c2 : a0_1 = true
 ·subst c2
  have H1 : ((impl_in.f a0_0 0 65535).bind fun bm => (if bm = true then ((impl_KeyOk.f k a0_2 a0_3 a0_4 a0_5).bind fun bj => (some bj)) else (some false))) = some r := by rw [if_pos rfl] at H; exact H
  clear H; have H := H1; clear H1; replace H := Option.bind_eq_some_iff.mp H; obtain ⟨bm, A30, H⟩ := H; replace H : (if bm = true then ((impl_KeyOk.f k a0_2 a0_3 a0_4 a0_5).bind fun bj => (some bj)) else (some false)) = some r := H; have A3 := Aside0.mk A30; clear A30
  by_cases c4 : bm = true
  ·subst c4
   have H1 : ((impl_KeyOk.f k a0_2 a0_3 a0_4 a0_5).bind fun bj => (some bj)) = some r := by rw [if_pos rfl] at H; exact H
   clear H; have H := H1; clear H1; replace H := Option.bind_eq_some_iff.mp H; obtain ⟨bj, A50, H⟩ := H; replace H : (some bj) = some r := H; have A5 := Aside0.mk A50; clear A50; obtain rfl := Option.some.inj H
   go_enter Try.func35, Try.ntmps35
   go_wp2_with (first | ((with_reducible refine gate_dst (N := 1) rfl ?_); refine bxe 1 #[.int .i64 a0_0, .bool true, .int .i64 a0_2, .int .i64 a0_3, .int .i64 a0_4, .int .i64 a0_5] 36 ?_; intro bA hg w6 hbox hb; have bh := hbox; have bB := nge HB hg; have bC := nge HB hg; replace HB := nbs HB hb; clear hb hbox hg; obtain ⟨dV, dW, dX, dY, dZ, d0⟩ := c6e bh; obtain ⟨d1, d2, d3, d4, d5, d6⟩ := z6_ bh) | ((with_reducible refine gate_callee (f := 27) rfl ?_); refine goesM (some 7) rfl rfl Try.func27 (by kernel_rfl) rfl #[.int .i64 a0_0, .int .i64 0, .int .i64 65535] rfl ?_; (with_reducible refine (impl_in.calls a0_0 0 65535 true _ A3.out).mono ?_); rintro e w' ⟨rfl, ⟨nd, rfl⟩⟩; refine ⟨_, rfl, ?_⟩) | (go_at_call 41; (with_reducible refine (impl_KeyOk.calls k a0_2 a0_3 a0_4 a0_5 bj _ A5.out).mono ?_); rintro e w8 ⟨rfl, hb⟩; replace bh := nblk bh hb; replace HB := nbs HB hb; (try clear hb)))
   go_ret
   exact ⟨er_, nbe HB⟩
  ·replace c4 := Bool.eq_false_iff.mpr c4
   subst c4; have H1 : (some false) = some r := by rw [if_neg (show ¬ (false = true) by decide)] at H; exact H
   clear H; have H := H1; clear H1; obtain rfl := Option.some.inj H
   go_enter Try.func35, Try.ntmps35
   go_wp2_with (first | ((with_reducible refine gate_dst (N := 1) rfl ?_); refine bxe 1 #[.int .i64 a0_0, .bool true, .int .i64 a0_2, .int .i64 a0_3, .int .i64 a0_4, .int .i64 a0_5] 36 ?_; intro bA hg w9 hbox hb; have bh := hbox; have bB := nge HB hg; have bC := nge HB hg; replace HB := nbs HB hb; clear hb hbox hg; obtain ⟨bq, br, bs, bt, bD, bE⟩ := c6e bh; obtain ⟨bu, bv, bw, bx, bF, bG⟩ := z6_ bh) | ((with_reducible refine gate_callee (f := 27) rfl ?_); refine goesM (some 7) rfl rfl Try.func27 (by kernel_rfl) rfl #[.int .i64 a0_0, .int .i64 0, .int .i64 65535] rfl ?_; (with_reducible refine (impl_in.calls a0_0 0 65535 false _ A3.out).mono ?_); rintro e w' ⟨rfl, ⟨nd, rfl⟩⟩; refine ⟨_, rfl, ?_⟩))
   go_ret
   exact ⟨er_, nbe HB⟩
 ·replace c2 := Bool.eq_false_iff.mpr c2
  subst c2; have H1 : ((impl_in.f a0_0 0 65535).bind fun bn => (if bn = true then (some (a0_2 == 0 && (a0_3 == 0 && (a0_4 == 0 && (a0_5 == 0))))) else (some false))) = some r := by rw [if_neg (show ¬ (false = true) by decide)] at H; exact H
  clear H; have H := H1; clear H1; replace H := Option.bind_eq_some_iff.mp H; obtain ⟨bn, A110, H⟩ := H; replace H : (if bn = true then (some (a0_2 == 0 && (a0_3 == 0 && (a0_4 == 0 && (a0_5 == 0))))) else (some false)) = some r := H; have A11 := Aside0.mk A110; clear A110
  by_cases c12 : bn = true
  ·subst c12
   have H1 : (some (a0_2 == 0 && (a0_3 == 0 && (a0_4 == 0 && (a0_5 == 0))))) = some r := by rw [if_pos rfl] at H; exact H
   clear H; have H := H1; clear H1; obtain rfl := Option.some.inj H
   go_enter Try.func35, Try.ntmps35
   go_wp2_with (first | ((with_reducible refine gate_dst (N := 1) rfl ?_); refine bxe 1 #[.int .i64 a0_0, .bool false, .int .i64 a0_2, .int .i64 a0_3, .int .i64 a0_4, .int .i64 a0_5] 36 ?_; intro bA hg dg hbox hb; have bh := hbox; have bB := nge HB hg; have bC := nge HB hg; replace HB := nbs HB hb; clear hb hbox hg; obtain ⟨b6, b7, b8, b9, ds, dt⟩ := c6e bh; obtain ⟨da, db, dc, dd, du, dv⟩ := z6_ bh) | ((with_reducible refine gate_callee (f := 27) rfl ?_); refine goesM (some 15) rfl rfl Try.func27 (by kernel_rfl) rfl #[.int .i64 a0_0, .int .i64 0, .int .i64 65535] rfl ?_; (with_reducible refine (impl_in.calls a0_0 0 65535 true _ A11.out).mono ?_); rintro e w' ⟨rfl, ⟨nd, rfl⟩⟩; refine ⟨_, rfl, ?_⟩))
   go_ret
   exact ⟨er_, nbe HB⟩
  ·replace c12 := Bool.eq_false_iff.mpr c12
   subst c12; have H1 : (some false) = some r := by rw [if_neg (show ¬ (false = true) by decide)] at H; exact H
   clear H; have H := H1; clear H1; obtain rfl := Option.some.inj H
   go_enter Try.func35, Try.ntmps35
   go_wp2_with (first | ((with_reducible refine gate_dst (N := 1) rfl ?_); refine bxe 1 #[.int .i64 a0_0, .bool false, .int .i64 a0_2, .int .i64 a0_3, .int .i64 a0_4, .int .i64 a0_5] 36 ?_; intro bA hg dh hbox hb; have bh := hbox; have bB := nge HB hg; have bC := nge HB hg; replace HB := nbs HB hb; clear hb hbox hg; obtain ⟨di, dj, dk, dl, d7, d8⟩ := c6e bh; obtain ⟨dm, dn, dp, dq, d9, ea⟩ := z6_ bh) | ((with_reducible refine gate_callee (f := 27) rfl ?_); refine goesM (some 15) rfl rfl Try.func27 (by kernel_rfl) rfl #[.int .i64 a0_0, .int .i64 0, .int .i64 65535] rfl ?_; (with_reducible refine (impl_in.calls a0_0 0 65535 false _ A11.out).mono ?_); rintro e w' ⟨rfl, ⟨nd, rfl⟩⟩; refine ⟨_, rfl, ?_⟩))
   go_ret
   exact ⟨er_, nbe HB⟩

/-! ### impl_Try: function 42 -/
def impl_Try.j0 : Nat → Int → Int → Bool → Int → Bool → Int → Int → Int → Int → Option (Int)
 | 0, _, _, _, _, _, _, _, _, _ => none
 | k + 1, x1, x2, x7, eb, ec, dw, dx, dy, dz => if x7 = true then (some 1) else (if dz = 0 then (if (Go.bits .andNot .i64 x2 dy) = 0 then (if x1 < dw then (some 4) else (if x1 ≥ dx then (some 4) else (some 0))) else (some 3)) else (some 2))
def impl_Try.f (k : Nat) (a0_0 : Int) (a0_1 : Bool) (a0_2 : Int) (a0_3 : Int) (a0_4 : Int) (a0_5 : Int) (a1 : Int) (a2 : Int) : Option (Int) := if a0_1 = true then ((impl_WordOk.f k a0_0 a0_1 a0_2 a0_3 a0_4 a0_5).bind fun bl => (impl_Try.j0 k a1 a2 (!bl) a0_0 a0_1 a0_2 a0_3 a0_4 a0_5)) else (impl_Try.j0 k a1 a2 true a0_0 a0_1 a0_2 a0_3 a0_4 a0_5)
theorem impl_Try.mono_l : ∀ k, (∀ y0 y1 y2 y3 y4 y5 y6 y7 y8, LeO (impl_Try.j0 k y0 y1 y2 y3 y4 y5 y6 y7 y8) (impl_Try.j0 (k + 1) y0 y1 y2 y3 y4 y5 y6 y7 y8))
 | 0 => fun _ _ _ _ _ _ _ _ _ r h => by simp [impl_Try.j0] at h
 | k + 1 => by
  have ih0 := impl_Try.mono_l k
  ·intro y0 y1 y2 y3 y4 y5 y6 y7 y8
   unfold impl_Try.j0
   repeat' first
   | (with_reducible exact ih0 _ _ _ _ _ _ _ _ _)
   | (with_reducible exact impl_WordOk.mono _ _ _ _ _ _ _)
   | (with_reducible exact LeO.refl _)
   | (with_reducible exact LeO.none _)
   | (with_reducible refine LeO.ite ?_ ?_)
   | (with_reducible refine LeO.bind ?_ (fun _ => ?_))
   | exact ih0 _ _ _ _ _ _ _ _ _
   | exact impl_WordOk.mono _ _ _ _ _ _ _
   | exact LeO.none _
   | refine LeO.ite ?_ ?_
   | refine LeO.bind ?_ (fun _ => ?_)
theorem impl_Try.mono : ∀ a0 a1 a2 a3 a4 a5 a6 a7 k, LeO (impl_Try.f k a0 a1 a2 a3 a4 a5 a6 a7) (impl_Try.f (k + 1) a0 a1 a2 a3 a4 a5 a6 a7) := by
 intro a0 a1 a2 a3 a4 a5 a6 a7 k; have ih0 := impl_Try.mono_l k
 unfold impl_Try.f
 repeat' first
   | (with_reducible exact ih0 _ _ _ _ _ _ _ _ _)
   | (with_reducible exact impl_WordOk.mono _ _ _ _ _ _ _)
   | (with_reducible exact LeO.refl _)
   | (with_reducible exact LeO.none _)
   | (with_reducible refine LeO.ite ?_ ?_)
   | (with_reducible refine LeO.bind ?_ (fun _ => ?_))
   | exact ih0 _ _ _ _ _ _ _ _ _
   | exact impl_WordOk.mono _ _ _ _ _ _ _
   | exact LeO.none _
   | refine LeO.ite ?_ ?_
   | refine LeO.bind ?_ (fun _ => ?_)
set_option maxHeartbeats 8000000 in
set_option maxRecDepth 100000 in
theorem impl_Try.calls (k : Nat) (a0_0 : Int) (a0_1 : Bool) (a0_2 : Int) (a0_3 : Int) (a0_4 : Int) (a0_5 : Int) (a1 : Int) (a2 : Int) (r : Int) (w : World) (h : impl_Try.f k a0_0 a0_1 a0_2 a0_3 a0_4 a0_5 a1 a2 = some r) :
  Calls Try.prog 42 #[.agg #[.int .i64 a0_0, .bool a0_1, .int .i64 a0_2, .int .i64 a0_3, .int .i64 a0_4, .int .i64 a0_5], .int .i64 a1, .int .i64 a2] w fun e w' => e = .returned (.int .i64 r) ∧ Below w.heap.size w w' := by
 have hu36 := Try.underlying36; have HB := Aside0.mk (Below.refl w.heap.size w); have H : (if a0_1 = true then ((impl_WordOk.f k a0_0 a0_1 a0_2 a0_3 a0_4 a0_5).bind fun bl => (impl_Try.j0 k a1 a2 (!bl) a0_0 a0_1 a0_2 a0_3 a0_4 a0_5)) else (impl_Try.j0 k a1 a2 true a0_0 a0_1 a0_2 a0_3 a0_4 a0_5)) = some r := h; clear h; have bH := Aside0.mk H; clear H
 go_enter Try.func42, Try.ntmps42
 go_upto_region 1 with (first | ((with_reducible refine gate_dst (N := 3) rfl ?_); refine bxe 3 #[.int .i64 a0_0, .bool a0_1, .int .i64 a0_2, .int .i64 a0_3, .int .i64 a0_4, .int .i64 a0_5] 36 ?_; intro dA hg w5 hbox hb; have bc := hbox; have ed := nge HB hg; have ee := nge HB hg; replace HB := nbs HB hb; clear hb hbox hg))
 (try simp only [Act.put, List.setIfInBounds_toArray, List.set_cons_zero, List.set_cons_succ])
 go_cut [7] (fun v7 wc => ∃ (kq : Nat) (bz : Bool), v7 = .bool bz ∧ Aside0 (impl_Try.j0 kq a1 a2 bz a0_0 a0_1 a0_2 a0_3 a0_4 a0_5 = some r) ∧ Aside0 (kq ≤ k) ∧ Aside0 (wc.heap[dA]? = some (.cells #[.int .i64 a0_0, .bool a0_1, .int .i64 a0_2, .int .i64 a0_3, .int .i64 a0_4, .int .i64 a0_5] 36 (0, 0))) ∧ Aside0 (Below w.heap.size w wc))
 case first =>
  have H := bH.out; clear bH
  by_cases c6 : a0_1 = true
  ·subst c6
   have H1 : ((impl_WordOk.f k a0_0 true a0_2 a0_3 a0_4 a0_5).bind fun bl => (impl_Try.j0 k a1 a2 (!bl) a0_0 true a0_2 a0_3 a0_4 a0_5)) = some r := by rw [if_pos rfl] at H; exact H
   clear H; have H := H1; clear H1; replace H := Option.bind_eq_some_iff.mp H; obtain ⟨bl, A70, H⟩ := H; replace H : (impl_Try.j0 k a1 a2 (!bl) a0_0 true a0_2 a0_3 a0_4 a0_5) = some r := H; have A7 := Aside0.mk A70; clear A70; have H' := Aside0.mk H; clear H; obtain ⟨bY, bZ, b0, b1, dB, dC⟩ := c6e bc; obtain ⟨b2, b3, b4, b5, dD, dE⟩ := z6_ bc
   go_wp2_with (first | (go_at_call 35; (with_reducible refine (impl_WordOk.calls k a0_0 true a0_2 a0_3 a0_4 a0_5 bl _ A7.out).mono ?_); rintro e w9 ⟨rfl, hb⟩; replace bc := nblk bc hb; replace HB := nbs HB hb; (try clear hb)))
   go_meet
   case rel => exact ⟨_, (!bl), (by first | rfl | (simp; done) | (simp [*]; done)), H', ⟨by first | omega | exact Nat.le_refl _⟩, ⟨nb bc⟩, ⟨nbe HB⟩⟩
  ·replace c6 := Bool.eq_false_iff.mpr c6
   subst c6; have H1 : (impl_Try.j0 k a1 a2 true a0_0 false a0_2 a0_3 a0_4 a0_5) = some r := by rw [if_neg (show ¬ (false = true) by decide)] at H; exact H
   clear H; have H := H1; clear H1; have H' := Aside0.mk H; clear H; obtain ⟨bq, br, bs, bt, bD, bE⟩ := c6e bc; obtain ⟨bu, bv, bw, bx, bF, bG⟩ := z6_ bc; go_wp2
   go_meet
   case rel => exact ⟨_, (true), (by first | rfl | (simp; done) | (simp [*]; done)), H', ⟨by first | omega | exact Nat.le_refl _⟩, ⟨nb bc⟩, ⟨nbe HB⟩⟩
 case rest =>
  clear bH; try clear p2
  try clear c4
  try clear c6
  try clear bq
  try clear br
  try clear bs
  try clear bt
  try clear bD
  try clear bE
  try clear bY
  try clear bZ
  try clear b0
  try clear b1
  try clear dB
  try clear dC
  try clear bu
  try clear bv
  try clear bw
  try clear bx
  try clear bF
  try clear bG
  try clear b2
  try clear b3
  try clear b4
  try clear b5
  try clear dD
  try clear dE
  obtain ⟨kq, bz, rfl, HA, ef, bc, HB⟩ := hcut
  cases kq with
  | zero => exact absurd HA.out (by simp [impl_Try.j0])
  | succ kj3 =>
   have H := HA.out; clear HA; simp only [impl_Try.j0] at H
   by_cases c11 : bz = true
   ·subst c11
    have H1 : (some 1) = some r := by rw [if_pos rfl] at H; exact H
    clear H; have H := H1; clear H1; obtain rfl := Option.some.inj H; go_wp2
    go_ret
    exact ⟨er_, nbe HB⟩
   ·replace c11 := Bool.eq_false_iff.mpr c11
    subst c11; have H1 : (if a0_5 = 0 then (if (Go.bits .andNot .i64 a2 a0_4) = 0 then (if a1 < a0_2 then (some 4) else (if a1 ≥ a0_3 then (some 4) else (some 0))) else (some 3)) else (some 2)) = some r := by rw [if_neg (show ¬ (false = true) by decide)] at H; exact H
    clear H; have H := H1; clear H1
    by_cases c12 : a0_5 = 0
    ·rw [if_pos c12] at H
     have c12b0 : (a0_5 == 0) = true := beq_iff_eq.mpr c12; have c12b1 : (a0_5 != 0) = false := bne_eq_false_iff_eq.mpr c12; clear c12
     by_cases c13 : (Go.bits .andNot .i64 a2 a0_4) = 0
     ·rw [if_pos c13] at H
      have c13b0 : ((Go.bits .andNot .i64 a2 a0_4) == 0) = true := beq_iff_eq.mpr c13; have c13b1 : ((Go.bits .andNot .i64 a2 a0_4) != 0) = false := bne_eq_false_iff_eq.mpr c13; clear c13
      by_cases c14 : a1 < a0_2
      ·rw [if_pos c14] at H
       have c14b0 : decide (a1 < a0_2) = true := decide_eq_true c14; clear c14; obtain rfl := Option.some.inj H; obtain ⟨eg, eh, ei, ej, ek, el⟩ := c6e bc; obtain ⟨em, en, eo, ep, er, es⟩ := z6_ bc; go_wp2
       go_ret
       exact ⟨er_, nbe HB⟩
      ·rw [if_neg c14] at H
       have c14b0 : decide (a1 < a0_2) = false := decide_eq_false c14; clear c14
       by_cases c16 : a1 ≥ a0_3
       ·rw [if_pos c16] at H
        have c16b0 : decide (a0_3 ≤ a1) = true := decide_eq_true c16; clear c16; obtain rfl := Option.some.inj H; obtain ⟨et, eu, ev, ew, ex, ey⟩ := c6e bc; obtain ⟨ez, eA, eB, eC, eD, eE⟩ := z6_ bc; go_wp2
        go_ret
        exact ⟨er_, nbe HB⟩
       ·rw [if_neg c16] at H
        have c16b0 : decide (a0_3 ≤ a1) = false := decide_eq_false c16; clear c16; obtain rfl := Option.some.inj H; obtain ⟨eF, eG, eH, eI, eJ, eK⟩ := c6e bc; obtain ⟨eL, eM, eN, eO, eP, eQ⟩ := z6_ bc; go_wp2
        go_ret
        exact ⟨er_, nbe HB⟩
     ·rw [if_neg c13] at H
      have c13b0 : ((Go.bits .andNot .i64 a2 a0_4) == 0) = false := beq_eq_false_iff_ne.mpr c13; have c13b1 : ((Go.bits .andNot .i64 a2 a0_4) != 0) = true := bne_iff_ne.mpr c13; obtain rfl := Option.some.inj H; obtain ⟨eR, eS, eT, eU, eV, eW⟩ := c6e bc; obtain ⟨eX, eY, eZ, e0, e1, e2⟩ := z6_ bc; go_wp2
      go_ret
      exact ⟨er_, nbe HB⟩
    ·rw [if_neg c12] at H
     have c12b0 : (a0_5 == 0) = false := beq_eq_false_iff_ne.mpr c12; have c12b1 : (a0_5 != 0) = true := bne_iff_ne.mpr c12; obtain rfl := Option.some.inj H; obtain ⟨e3, e4, e5, e6, e7, e8⟩ := c6e bc; obtain ⟨e9, ga, gb, gc, gd, gf⟩ := z6_ bc; go_wp2
     go_ret
     exact ⟨er_, nbe HB⟩

/-! ### impl_permits: function 60 -/
def impl_permits.f (a0_0 : Int) (a0_1 : Bool) (a0_2 : Int) (a0_3 : Int) (a0_4 : Int) (a0_5 : Int) (a1 : Int) : Option (Bool) := some ((Go.bits .and .i64 a0_4 a1) != 0)
set_option maxHeartbeats 8000000 in
set_option maxRecDepth 100000 in
theorem impl_permits.calls (a0_0 : Int) (a0_1 : Bool) (a0_2 : Int) (a0_3 : Int) (a0_4 : Int) (a0_5 : Int) (a1 : Int) (r : Bool) (w : World) (h : impl_permits.f a0_0 a0_1 a0_2 a0_3 a0_4 a0_5 a1 = some r) :
  Calls Try.prog 60 #[.agg #[.int .i64 a0_0, .bool a0_1, .int .i64 a0_2, .int .i64 a0_3, .int .i64 a0_4, .int .i64 a0_5], .int .i64 a1] w fun e w' => e = .returned (.bool r) ∧ Below w.heap.size w w' := by
 have hu36 := Try.underlying36; have HB := Aside0.mk (Below.refl w.heap.size w); have H : (some ((Go.bits .and .i64 a0_4 a1) != 0)) = some r := h; clear h; obtain rfl := Option.some.inj H
 go_enter Try.func60, Try.ntmps60
 go_wp2_with (first | ((with_reducible refine gate_dst (N := 2) rfl ?_); refine bxe 2 #[.int .i64 a0_0, .bool a0_1, .int .i64 a0_2, .int .i64 a0_3, .int .i64 a0_4, .int .i64 a0_5] 36 ?_; intro gg hg w3 hbox hb; have de := hbox; have gh := nge HB hg; have gi := nge HB hg; replace HB := nbs HB hb; clear hb hbox hg; obtain ⟨gj, gl, gm, gn, gp, gq⟩ := c6e de; obtain ⟨gr, gs, gt, gu, gv, gw⟩ := z6_ de))
 go_ret
 exact ⟨er_, nbe HB⟩

/-! ### impl_Taken: function 43 -/
def impl_Taken.f (a0_0 : Int) (a0_1 : Bool) (a0_2 : Int) (a0_3 : Int) (a0_4 : Int) (a0_5 : Int) (a1_0 : Int) (a1_1 : Bool) (a1_2 : Int) (a1_3 : Int) (a1_4 : Int) (a1_5 : Int) : Option (Int × Bool × Int × Int × Int × Int) := (impl_permits.f a0_0 a0_1 a0_2 a0_3 a0_4 a0_5 8).bind fun bp => (if bp = true then (some (a1_0, a1_1, a1_2, a1_3, a1_4, a1_5)) else ((impl_Bare.f a1_0 a1_1 a1_2 a1_3 a1_4 a1_5).bind fun ba => (some (ba.1, ba.2.1, ba.2.2.1, ba.2.2.2.1, ba.2.2.2.2.1, ba.2.2.2.2.2))))
set_option maxHeartbeats 8000000 in
set_option maxRecDepth 100000 in
theorem impl_Taken.calls (a0_0 : Int) (a0_1 : Bool) (a0_2 : Int) (a0_3 : Int) (a0_4 : Int) (a0_5 : Int) (a1_0 : Int) (a1_1 : Bool) (a1_2 : Int) (a1_3 : Int) (a1_4 : Int) (a1_5 : Int) (r1 : Int) (r2 : Bool) (r3 : Int) (r4 : Int) (r5 : Int) (r6 : Int) (w : World) (h : impl_Taken.f a0_0 a0_1 a0_2 a0_3 a0_4 a0_5 a1_0 a1_1 a1_2 a1_3 a1_4 a1_5 = some (r1, r2, r3, r4, r5, r6)) :
  Calls Try.prog 43 #[.agg #[.int .i64 a0_0, .bool a0_1, .int .i64 a0_2, .int .i64 a0_3, .int .i64 a0_4, .int .i64 a0_5], .agg #[.int .i64 a1_0, .bool a1_1, .int .i64 a1_2, .int .i64 a1_3, .int .i64 a1_4, .int .i64 a1_5]] w fun e w' => e = .returned (.agg #[.int .i64 r1, .bool r2, .int .i64 r3, .int .i64 r4, .int .i64 r5, .int .i64 r6]) ∧ Below w.heap.size w w' := by
 have hu36 := Try.underlying36; have HB := Aside0.mk (Below.refl w.heap.size w); have H : ((impl_permits.f a0_0 a0_1 a0_2 a0_3 a0_4 a0_5 8).bind fun bp => (if bp = true then (some (a1_0, a1_1, a1_2, a1_3, a1_4, a1_5)) else ((impl_Bare.f a1_0 a1_1 a1_2 a1_3 a1_4 a1_5).bind fun ba => (some (ba.1, ba.2.1, ba.2.2.1, ba.2.2.2.1, ba.2.2.2.2.1, ba.2.2.2.2.2))))) = some (r1, r2, r3, r4, r5, r6) := h; clear h; replace H := Option.bind_eq_some_iff.mp H; obtain ⟨bp, A30, H⟩ := H; replace H : (if bp = true then (some (a1_0, a1_1, a1_2, a1_3, a1_4, a1_5)) else ((impl_Bare.f a1_0 a1_1 a1_2 a1_3 a1_4 a1_5).bind fun ba => (some (ba.1, ba.2.1, ba.2.2.1, ba.2.2.2.1, ba.2.2.2.2.1, ba.2.2.2.2.2)))) = some (r1, r2, r3, r4, r5, r6) := H; have A3 := Aside0.mk A30; clear A30
 by_cases c4 : bp = true
 ·subst c4
  have H1 : (some (a1_0, a1_1, a1_2, a1_3, a1_4, a1_5)) = some (r1, r2, r3, r4, r5, r6) := by rw [if_pos rfl] at H; exact H
  clear H; have H := H1; clear H1; simp only [Option.some.injEq, Prod.mk.injEq] at H; obtain ⟨rfl, rfl, rfl, rfl, rfl, rfl⟩ := H
  go_enter Try.func43, Try.ntmps43
  go_wp2_with (first | ((with_reducible refine gate_dst (N := 2) rfl ?_); refine bxe 2 #[.int .i64 a0_0, .bool a0_1, .int .i64 a0_2, .int .i64 a0_3, .int .i64 a0_4, .int .i64 a0_5] 36 ?_; intro dF hg w5 hbox hb; have bb := hbox; have dG := nge HB hg; have dH := nge HB hg; replace HB := nbs HB hb; clear hb hbox hg) | ((with_reducible refine gate_dst (N := 3) rfl ?_); refine bxe 3 #[.int .i64 a1_0, .bool a1_1, .int .i64 a1_2, .int .i64 a1_3, .int .i64 a1_4, .int .i64 a1_5] 36 ?_; intro dI hg w6 hbox hb; have bd := hbox; have dJ := nge HB hg; have dK := nge HB hg; have bI := nlt bb hg; have bJ := ngt bb hg; replace bb := nblk bb hb; replace HB := nbs HB hb; clear hb hbox hg) | ((with_reducible refine gate_dst (N := 4) rfl ?_); refine bxe 4 #[.int .i64 0, .bool false, .int .i64 0, .int .i64 0, .int .i64 0, .int .i64 0] 36 ?_; intro bK hg w7 hbox hb; have bi := hbox; have dL := nge HB hg; have dM := nge HB hg; have bL := nlt bb hg; have bM := ngt bb hg; have bN := nlt bd hg; have bO := ngt bd hg; replace bb := nblk bb hb; replace bd := nblk bd hb; replace HB := nbs HB hb; clear hb hbox hg; have gx := bI.out; have gy := bJ.out; have gz := bL.out; have gA := bM.out; obtain ⟨bq, br, bs, bt, bD, bE⟩ := c6e bb; obtain ⟨bu, bv, bw, bx, bF, bG⟩ := z6_ bb) | ((with_reducible refine gate_callee (f := 60) rfl ?_); refine goesM (some 6) rfl rfl Try.func60 (by kernel_rfl) rfl #[.agg #[.int .i64 a0_0, .bool a0_1, .int .i64 a0_2, .int .i64 a0_3, .int .i64 a0_4, .int .i64 a0_5], .int .i64 8] rfl ?_; (with_reducible refine (impl_permits.calls a0_0 a0_1 a0_2 a0_3 a0_4 a0_5 8 true _ A3.out).mono ?_); rintro e df ⟨rfl, hb⟩; refine ⟨_, rfl, ?_⟩; replace bb := nblk bb hb; replace bd := nblk bd hb; replace bi := nblk bi hb; replace HB := nbs HB hb; (try clear hb); have gB := bN.out; have gC := bO.out; obtain ⟨gD, gE, gF, gG, gH, gI⟩ := c6e bd; obtain ⟨gJ, gK, gL, gM, gN, gO⟩ := z6_ bd; obtain ⟨b6, b7, b8, b9, ds, dt⟩ := c6e bi; obtain ⟨da, db, dc, dd, du, dv⟩ := z6_ bi))
  refine bodyPost_ret (results_cell_row rfl _ _ bK 36 #[.int .i64 a1_0, .bool a1_1, .int .i64 a1_2, .int .i64 a1_3, .int .i64 a1_4, .int .i64 a1_5] (0, 0) _ rfl (q6 bi) Try.underlying36 rfl (by kernel_rfl)) rfl ?_; exact ⟨er_, nbe HB⟩
 ·replace c4 := Bool.eq_false_iff.mpr c4
  subst c4; have H1 : ((impl_Bare.f a1_0 a1_1 a1_2 a1_3 a1_4 a1_5).bind fun ba => (some (ba.1, ba.2.1, ba.2.2.1, ba.2.2.2.1, ba.2.2.2.2.1, ba.2.2.2.2.2))) = some (r1, r2, r3, r4, r5, r6) := by rw [if_neg (show ¬ (false = true) by decide)] at H; exact H
  clear H; have H := H1; clear H1; replace H := Option.bind_eq_some_iff.mp H; obtain ⟨⟨bP, bQ, bR, bS, bT, bU⟩, A150, H⟩ := H; replace H : (some (bP, bQ, bR, bS, bT, bU)) = some (r1, r2, r3, r4, r5, r6) := H; have A15 := Aside0.mk A150; clear A150; simp only [Option.some.injEq, Prod.mk.injEq] at H; obtain ⟨rfl, rfl, rfl, rfl, rfl, rfl⟩ := H
  go_enter Try.func43, Try.ntmps43
  go_wp2_with (first | ((with_reducible refine gate_dst (N := 2) rfl ?_); refine bxe 2 #[.int .i64 a0_0, .bool a0_1, .int .i64 a0_2, .int .i64 a0_3, .int .i64 a0_4, .int .i64 a0_5] 36 ?_; intro dF hg gP hbox hb; have bb := hbox; have dG := nge HB hg; have dH := nge HB hg; replace HB := nbs HB hb; clear hb hbox hg) | ((with_reducible refine gate_dst (N := 3) rfl ?_); refine bxe 3 #[.int .i64 a1_0, .bool a1_1, .int .i64 a1_2, .int .i64 a1_3, .int .i64 a1_4, .int .i64 a1_5] 36 ?_; intro dI hg dr hbox hb; have bd := hbox; have dJ := nge HB hg; have dK := nge HB hg; have bI := nlt bb hg; have bJ := ngt bb hg; replace bb := nblk bb hb; replace HB := nbs HB hb; clear hb hbox hg) | ((with_reducible refine gate_dst (N := 4) rfl ?_); refine bxe 4 #[.int .i64 0, .bool false, .int .i64 0, .int .i64 0, .int .i64 0, .int .i64 0] 36 ?_; intro bK hg gQ hbox hb; have bi := hbox; have dL := nge HB hg; have dM := nge HB hg; have bL := nlt bb hg; have bM := ngt bb hg; have bN := nlt bd hg; have bO := ngt bd hg; replace bb := nblk bb hb; replace bd := nblk bd hb; replace HB := nbs HB hb; clear hb hbox hg; have gR := bI.out; have gS := bJ.out; have gT := bL.out; have gU := bM.out; obtain ⟨gV, gW, gX, gY, gZ, g0⟩ := c6e bb; obtain ⟨g1, g2, g3, g4, g5, g6⟩ := z6_ bb) | ((with_reducible refine gate_callee (f := 60) rfl ?_); refine goesM (some 6) rfl rfl Try.func60 (by kernel_rfl) rfl #[.agg #[.int .i64 a0_0, .bool a0_1, .int .i64 a0_2, .int .i64 a0_3, .int .i64 a0_4, .int .i64 a0_5], .int .i64 8] rfl ?_; (with_reducible refine (impl_permits.calls a0_0 a0_1 a0_2 a0_3 a0_4 a0_5 8 false _ A3.out).mono ?_); rintro e g7 ⟨rfl, hb⟩; refine ⟨_, rfl, ?_⟩; replace bb := nblk bb hb; replace bd := nblk bd hb; replace bi := nblk bi hb; replace HB := nbs HB hb; (try clear hb); have g8 := bN.out; have g9 := bO.out; obtain ⟨ha, hc, hd, hf, hh, hj⟩ := c6e bd; obtain ⟨hl, hm, hn, ho, hp, hq⟩ := z6_ bd) | ((with_reducible refine gate_callee (f := 38) rfl ?_); refine goesM (some 9) rfl rfl Try.func38 (by kernel_rfl) rfl #[.agg #[.int .i64 a1_0, .bool a1_1, .int .i64 a1_2, .int .i64 a1_3, .int .i64 a1_4, .int .i64 a1_5]] rfl ?_; (with_reducible refine (impl_Bare.calls a1_0 a1_1 a1_2 a1_3 a1_4 a1_5 bP bQ bR bS bT bU _ A15.out).mono ?_); rintro e hr ⟨rfl, hb⟩; refine ⟨_, rfl, ?_⟩; replace bb := nblk bb hb; replace bd := nblk bd hb; replace bi := nblk bi hb; replace HB := nbs HB hb; (try clear hb); obtain ⟨hs, ht, hu, hv, hw, hx⟩ := c6e bi; obtain ⟨hy, hz, hA, hB, hC, hD⟩ := z6_ bi))
  refine bodyPost_ret (results_cell_row rfl _ _ bK 36 #[.int .i64 bP, .bool bQ, .int .i64 bR, .int .i64 bS, .int .i64 bT, .int .i64 bU] (0, 0) _ rfl (q6 bi) Try.underlying36 rfl (by kernel_rfl)) rfl ?_; exact ⟨er_, nbe HB⟩

end Go.Proofs.Ytednioabjiabiaa.PFnMemory
