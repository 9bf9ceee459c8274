-- Written by a program of this session (wip/patch.py turns a copy of the kit's print): the functions that the law reaches, and their walks.
import Derived.Test.YtgfaicenpoahoaaPFnExactWorkx0
import Derived.Test.YtgfaicenpoahoaaPFnExactWorkx1
import Derived.Test.YtgfaicenpoahoaaCFnExactWork
namespace Go.Proofs.Ytgfaicenpoahoaa.PFnExactWork
open Go.RowKit Go.Proofs.YtgfaicenpoahoaaW.PrintWords Go.Proofs.YtgfaicenpoahoaaW.PrintLast Go.Proofs.YtgfaicenpoahoaaW.PrintMore Go.Proofs.YtgfaicenpoahoaaW.Mine
attribute [local go_sem] max2_int min2_int max_two min_two max_three min_three max_four min_four   -- for this text's walks alone
set_option linter.unusedVariables false
set_option linter.unusedSimpArgs false

attribute [local go_sem high] eqA28
/-! ### spec_l1In: function 39 -/
def spec_l1In.f (a0 : Int) (a1 : Int) (a2 : Int) : Option (Bool) := if a0 ≥ a1 then (some (decide (a0 ≤ a2))) else (some false)
set_option maxHeartbeats 8000000 in
set_option maxRecDepth 100000 in
theorem spec_l1In.calls (a0 : Int) (a1 : Int) (a2 : Int) (r : Bool) (w : World) (h : spec_l1In.f a0 a1 a2 = some r) :
  Calls Try.prog 39 #[.int .i64 a0, .int .i64 a1, .int .i64 a2] w fun e w' => e = .returned (.bool r) ∧ Drawn0 w w' := by
 have H : (if a0 ≥ a1 then (some (decide (a0 ≤ a2))) else (some false)) = some r := h; clear h
 by_cases c4 : a0 ≥ a1
 ·rw [if_pos c4] at H
  have c4b0 : decide (a1 ≤ a0) = true := decide_eq_true c4; clear c4; obtain rfl := Option.some.inj H
  go_enter Try.func39, Try.ntmps39
  go_wp2
  go_ret
  exact ⟨by first | rfl | (simp; done) | (simp [*]; done), by repeat (first | exact Drawn0.refl _ | apply Drawn0.step)⟩
 ·rw [if_neg c4] at H
  have c4b0 : decide (a1 ≤ a0) = false := decide_eq_false c4; clear c4; obtain rfl := Option.some.inj H
  go_enter Try.func39, Try.ntmps39
  go_wp2
  go_ret
  exact ⟨by first | rfl | (simp; done) | (simp [*]; done), by repeat (first | exact Drawn0.refl _ | apply Drawn0.step)⟩

/-! ### spec_BoundsOk: function 42 -/
def spec_BoundsOk.f (a0 : Int) (a1 : Int) : Option (Bool) := (spec_l1In.f a0 0 4096).bind fun bN => (if bN = true then ((spec_l1In.f a1 0 4096).bind fun bw => (if bw = true then (some (decide (a0 ≤ a1))) else (some false))) else (some false))
set_option maxHeartbeats 8000000 in
set_option maxRecDepth 100000 in
theorem spec_BoundsOk.calls (a0 : Int) (a1 : Int) (r : Bool) (w : World) (h : spec_BoundsOk.f a0 a1 = some r) :
  Calls Try.prog 42 #[.int .i64 a0, .int .i64 a1] w fun e w' => e = .returned (.bool r) ∧ Drawn0 w w' := by
 have H : ((spec_l1In.f a0 0 4096).bind fun bN => (if bN = true then ((spec_l1In.f a1 0 4096).bind fun bw => (if bw = true then (some (decide (a0 ≤ a1))) else (some false))) else (some false))) = some r := h; clear h; replace H := Option.bind_eq_some_iff.mp H; obtain ⟨bN, A30, H⟩ := H; replace H : (if bN = true then ((spec_l1In.f a1 0 4096).bind fun bw => (if bw = true then (some (decide (a0 ≤ a1))) else (some false))) else (some false)) = some r := H; have A3 := Aside0.mk A30; clear A30
 by_cases c4 : bN = true
 ·subst c4
  have H1 : ((spec_l1In.f a1 0 4096).bind fun bw => (if bw = true then (some (decide (a0 ≤ a1))) else (some false))) = some r := by rw [if_pos rfl] at H; exact H
  clear H; have H := H1; clear H1; replace H := Option.bind_eq_some_iff.mp H; obtain ⟨bw, A50, H⟩ := H; replace H : (if bw = true then (some (decide (a0 ≤ a1))) else (some false)) = some r := H; have A5 := Aside0.mk A50; clear A50
  by_cases c6 : bw = true
  ·subst c6
   have H1 : (some (decide (a0 ≤ a1))) = some r := by rw [if_pos rfl] at H; exact H
   clear H; have H := H1; clear H1; obtain rfl := Option.some.inj H
   go_enter Try.func42, Try.ntmps42
   go_wp2_with (first | ((with_reducible refine gate_callee (f := 39) rfl ?_); refine goesM (some 6) rfl rfl Try.func39 (by kernel_rfl) rfl #[.int .i64 a0, .int .i64 0, .int .i64 4096] rfl ?_; (with_reducible refine (spec_l1In.calls a0 0 4096 true _ A3.out).mono ?_); rintro e w' ⟨rfl, ⟨nd, rfl⟩⟩; refine ⟨_, rfl, ?_⟩) | (go_at_call 39; (with_reducible refine (spec_l1In.calls a1 0 4096 true _ A5.out).mono ?_); rintro e w' ⟨rfl, ⟨nd, rfl⟩⟩))
   go_ret
   exact ⟨by first | rfl | (simp; done) | (simp [*]; done), by repeat (first | exact Drawn0.refl _ | apply Drawn0.step)⟩
  ·replace c6 := Bool.eq_false_iff.mpr c6
   subst c6; have H1 : (some false) = some r := by rw [if_neg (show ¬ (false = true) by decide)] at H; exact H
   clear H; have H := H1; clear H1; obtain rfl := Option.some.inj H
   go_enter Try.func42, Try.ntmps42
   go_wp2_with (first | ((with_reducible refine gate_callee (f := 39) rfl ?_); refine goesM (some 6) rfl rfl Try.func39 (by kernel_rfl) rfl #[.int .i64 a0, .int .i64 0, .int .i64 4096] rfl ?_; (with_reducible refine (spec_l1In.calls a0 0 4096 true _ A3.out).mono ?_); rintro e w' ⟨rfl, ⟨nd, rfl⟩⟩; refine ⟨_, rfl, ?_⟩) | (go_at_call 39; (with_reducible refine (spec_l1In.calls a1 0 4096 false _ A5.out).mono ?_); rintro e w' ⟨rfl, ⟨nd, rfl⟩⟩))
   go_ret
   exact ⟨by first | rfl | (simp; done) | (simp [*]; done), by repeat (first | exact Drawn0.refl _ | apply Drawn0.step)⟩
 ·replace c4 := Bool.eq_false_iff.mpr c4
  subst c4; have H1 : (some false) = some r := by rw [if_neg (show ¬ (false = true) by decide)] at H; exact H
  clear H; have H := H1; clear H1; obtain rfl := Option.some.inj H
  go_enter Try.func42, Try.ntmps42
  go_wp2_with (first | ((with_reducible refine gate_callee (f := 39) rfl ?_); refine goesM (some 6) rfl rfl Try.func39 (by kernel_rfl) rfl #[.int .i64 a0, .int .i64 0, .int .i64 4096] rfl ?_; (with_reducible refine (spec_l1In.calls a0 0 4096 false _ A3.out).mono ?_); rintro e w' ⟨rfl, ⟨nd, rfl⟩⟩; refine ⟨_, rfl, ?_⟩))
  go_ret
  exact ⟨by first | rfl | (simp; done) | (simp [*]; done), by repeat (first | exact Drawn0.refl _ | apply Drawn0.step)⟩

/-! ### spec_Pack: function 53 -/
def spec_Pack.l0 : Nat → Int → Int → Int → Option (Int × Int × Int × Bool)
 | 0, _, _, _ => none
 | k + 1, x0, x1, x6 => if x6 ≤ 6 then (if 0 ≤ x6 then (if (shr .i64 x0 x6) ≤ 63 then (if (shr .i64 (wrap64 ((wrap64 ((wrap64 (x1 - (shl .i64 (shr .i64 x0 x6) x6))) + (shl .i64 1 x6))) - 1)) x6) ≤ 63 then (some (x6, shr .i64 x0 x6, shr .i64 (wrap64 ((wrap64 ((wrap64 (x1 - (shl .i64 (shr .i64 x0 x6) x6))) + (shl .i64 1 x6))) - 1)) x6, true)) else (spec_Pack.l0 k x0 x1 (wrap64 (x6 + 1)))) else (spec_Pack.l0 k x0 x1 (wrap64 (x6 + 1)))) else (none)) else (some (0, 0, 0, false))
def spec_Pack.f (k : Nat) (a0 : Int) (a1 : Int) : Option (Int × Int × Int × Bool) := (spec_BoundsOk.f a0 a1).bind fun bO => (if bO = true then (spec_Pack.l0 k a0 a1 0) else (some (0, 0, 0, false)))
theorem spec_Pack.mono_l : ∀ k, (∀ y0 y1 y2, LeO (spec_Pack.l0 k y0 y1 y2) (spec_Pack.l0 (k + 1) y0 y1 y2))
 | 0 => fun _ _ _ r h => by simp [spec_Pack.l0] at h
 | k + 1 => by
  have ih0 := spec_Pack.mono_l k
  ·intro y0 y1 y2
   unfold spec_Pack.l0
   repeat' first
   | (with_reducible exact ih0 _ _ _)
   | (with_reducible exact LeO.refl _)
   | (with_reducible exact LeO.none _)
   | (with_reducible refine LeO.ite ?_ ?_)
   | (with_reducible refine LeO.bind ?_ (fun _ => ?_))
   | exact ih0 _ _ _
   | exact LeO.none _
   | refine LeO.ite ?_ ?_
   | refine LeO.bind ?_ (fun _ => ?_)
theorem spec_Pack.mono : ∀ a0 a1 k, LeO (spec_Pack.f k a0 a1) (spec_Pack.f (k + 1) a0 a1) := by
 intro a0 a1 k; have ih0 := spec_Pack.mono_l k
 unfold spec_Pack.f
 repeat' first
   | (with_reducible exact ih0 _ _ _)
   | (with_reducible exact LeO.refl _)
   | (with_reducible exact LeO.none _)
   | (with_reducible refine LeO.ite ?_ ?_)
   | (with_reducible refine LeO.bind ?_ (fun _ => ?_))
   | exact ih0 _ _ _
   | exact LeO.none _
   | refine LeO.ite ?_ ?_
   | refine LeO.bind ?_ (fun _ => ?_)
set_option maxHeartbeats 8000000 in
set_option maxRecDepth 100000 in
theorem spec_Pack.calls (k : Nat) (a0 : Int) (a1 : Int) (r1 : Int) (r2 : Int) (r3 : Int) (r4 : Bool) (w : World) (h : spec_Pack.f k a0 a1 = some (r1, r2, r3, r4)) :
  Calls Try.prog 53 #[.int .i64 a0, .int .i64 a1] w fun e w' => e = .returned (.tuple #[.agg #[.int .i64 r1, .int .i64 r2, .int .i64 r3], .bool r4]) ∧ Below w.heap.size w w' := by
 have hu65 := Try.underlying65; have HB := Aside0.mk (Below.refl w.heap.size w); have H : ((spec_BoundsOk.f a0 a1).bind fun bO => (if bO = true then (spec_Pack.l0 k a0 a1 0) else (some (0, 0, 0, false)))) = some (r1, r2, r3, r4) := h; clear h; replace H := Option.bind_eq_some_iff.mp H; obtain ⟨bO, A30, H⟩ := H; replace H : (if bO = true then (spec_Pack.l0 k a0 a1 0) else (some (0, 0, 0, false))) = some (r1, r2, r3, r4) := H; have A3 := Aside0.mk A30; clear A30
 by_cases c4 : bO = true
 ·subst c4
  have H1 : (spec_Pack.l0 k a0 a1 0) = some (r1, r2, r3, r4) := by rw [if_pos rfl] at H; exact H
  clear H; have H := H1; clear H1; have H' := Aside0.mk H; clear H
  go_enter Try.func53, Try.ntmps53
  go_wp2_with (first | ((with_reducible refine gate_dst (N := 4) rfl ?_); refine bxe 4 #[.int .i64 0, .int .i64 0, .int .i64 0] 65 ?_; intro bC hg w5 hbox hb; have bf := hbox; have bW := nge HB hg; have bX := nge HB hg; replace HB := nbs HB hb; clear hb hbox hg) | (go_at_call 42; (with_reducible refine (spec_BoundsOk.calls a0 a1 true _ A3.out).mono ?_); rintro e w' ⟨rfl, ⟨nd, rfl⟩⟩; (try first | exact ⟨rfl, _, World.drewN_drewN _ _ _⟩ | exact ⟨rfl, _, Eq.trans (World.drewN_drewN _ _ _) (congrArg (World.drewN _) (Nat.add_assoc _ _ _))⟩)))
  repeat (go_quiet (first | ((with_reducible refine gate_dst (N := 4) rfl ?_); refine bxe 4 #[.int .i64 0, .int .i64 0, .int .i64 0] 65 ?_; intro bC hg w5 hbox hb; have bf := hbox; have bW := nge HB hg; have bX := nge HB hg; replace HB := nbs HB hb; clear hb hbox hg) | (go_at_call 42; (with_reducible refine (spec_BoundsOk.calls a0 a1 true _ A3.out).mono ?_); rintro e w' ⟨rfl, ⟨nd, rfl⟩⟩; (try first | exact ⟨rfl, _, World.drewN_drewN _ _ _⟩ | exact ⟨rfl, _, Eq.trans (World.drewN_drewN _ _ _) (congrArg (World.drewN _) (Nat.add_assoc _ _ _))⟩))); try go_wp2_with (first | ((with_reducible refine gate_dst (N := 4) rfl ?_); refine bxe 4 #[.int .i64 0, .int .i64 0, .int .i64 0] 65 ?_; intro bC hg w5 hbox hb; have bf := hbox; have bW := nge HB hg; have bX := nge HB hg; replace HB := nbs HB hb; clear hb hbox hg) | (go_at_call 42; (with_reducible refine (spec_BoundsOk.calls a0 a1 true _ A3.out).mono ?_); rintro e w' ⟨rfl, ⟨nd, rfl⟩⟩; (try first | exact ⟨rfl, _, World.drewN_drewN _ _ _⟩ | exact ⟨rfl, _, Eq.trans (World.drewN_drewN _ _ _) (congrArg (World.drewN _) (Nat.add_assoc _ _ _))⟩))))
  go_loopg [6] k (fun kq v6 w' => ∃ (ba : Int) (dh : Int) (di : Int) (dj : Int), v6 = .int .i64 ba ∧ Aside0 (spec_Pack.l0 kq a0 a1 ba = some (r1, r2, r3, r4)) ∧ Aside0 (kq ≤ k) ∧ Aside0 (w'.heap[bC]? = some (.cells #[.int .i64 dh, .int .i64 di, .int .i64 dj] 65 (0, 0))) ∧ Aside0 (Below w.heap.size w w'))
  case atStart => exact ⟨(0), (0), (0), (0), (by first | rfl | (simp; done) | (simp [*]; done)), H', ⟨Nat.le_refl _⟩, ⟨nb bf⟩, ⟨nbe HB⟩⟩
  case round =>
   clear H'; try clear p2
   try clear c4
   try clear c5
   obtain ⟨ba, dh, di, dj, rfl, HA, dk, bf, HB⟩ := hrel
   cases gk with
   | zero => exact absurd HA.out (by simp [spec_Pack.l0])
   | succ k1 =>
    have H := HA.out; clear HA; simp only [spec_Pack.l0] at H
    by_cases c6 : ba ≤ 6
    ·rw [if_pos c6] at H
     have c6b0 : decide (ba ≤ 6) = true := decide_eq_true c6; clear c6
     by_cases c7 : 0 ≤ ba
     ·rw [if_pos c7] at H
      have c7b0 := eq_true c7; have c7b1 : decide (0 ≤ ba) = true := decide_eq_true c7; clear c7; obtain ⟨bg, bY⟩ : ∃ j_ : Int, (shr .i64 a0 ba) = j_ := ⟨_, rfl⟩; replace H : (if (bg) ≤ 63 then (if (shr .i64 (wrap64 ((wrap64 ((wrap64 (a1 - (shl .i64 (bg) ba))) + (shl .i64 1 ba))) - 1)) ba) ≤ 63 then (some (ba, bg, shr .i64 (wrap64 ((wrap64 ((wrap64 (a1 - (shl .i64 (bg) ba))) + (shl .i64 1 ba))) - 1)) ba, true)) else (spec_Pack.l0 k1 a0 a1 (wrap64 (ba + 1)))) else (spec_Pack.l0 k1 a0 a1 (wrap64 (ba + 1)))) = some (r1, r2, r3, r4) := by first | (rw [bY] at H; exact H) | (simp only [bY] at H ⊢; exact H)
      have ga : (a0 / 2 ^ min ba.toNat 64) = bg := bY; have gb : ba ≤ 64 → (a0 / 2 ^ ba.toNat) = bg := shr_small bY; have c9b0 := eq_true (of_decide_eq_true (by first | (with_reducible assumption) | assumption) : 0 ≤ ba); obtain ⟨bp, bZ⟩ : ∃ j_ : Int, (shl .i64 (bg) ba) = j_ := ⟨_, rfl⟩; replace H : (if (bg) ≤ 63 then (if (shr .i64 (wrap64 ((wrap64 ((wrap64 (a1 - (bp))) + (shl .i64 1 ba))) - 1)) ba) ≤ 63 then (some (ba, bg, shr .i64 (wrap64 ((wrap64 ((wrap64 (a1 - (bp))) + (shl .i64 1 ba))) - 1)) ba, true)) else (spec_Pack.l0 k1 a0 a1 (wrap64 (ba + 1)))) else (spec_Pack.l0 k1 a0 a1 (wrap64 (ba + 1)))) = some (r1, r2, r3, r4) := by first | (rw [bZ] at H; exact H) | (simp only [bZ] at H ⊢; exact H)
      have er : (IntKind.i64.wrap ((bg) * 2 ^ min ba.toNat 64)) = bp := bZ; have es : ba ≤ 64 → (IntKind.i64.wrap ((bg) * 2 ^ ba.toNat)) = bp := shl_small bZ; have gc : (wrap64 ((bg) * 2 ^ min ba.toNat 64)) = bp := (i64_w _).symm.trans er; have gd : ba ≤ 64 → (wrap64 ((bg) * 2 ^ ba.toNat)) = bp := fun h_ => (i64_w _).symm.trans (es h_)
      have c11b0 := eq_true (of_decide_eq_true (by first | (with_reducible assumption) | assumption) : 0 ≤ ba); obtain ⟨bq, b0⟩ : ∃ j_ : Int, (shl .i64 1 ba) = j_ := ⟨_, rfl⟩; replace H : (if (bg) ≤ 63 then (if (shr .i64 (wrap64 ((wrap64 ((wrap64 (a1 - (bp))) + (bq))) - 1)) ba) ≤ 63 then (some (ba, bg, shr .i64 (wrap64 ((wrap64 ((wrap64 (a1 - (bp))) + (bq))) - 1)) ba, true)) else (spec_Pack.l0 k1 a0 a1 (wrap64 (ba + 1)))) else (spec_Pack.l0 k1 a0 a1 (wrap64 (ba + 1)))) = some (r1, r2, r3, r4) := by first | (rw [b0] at H; exact H) | (simp only [b0] at H ⊢; exact H)
      have dV : (IntKind.i64.wrap (1 * 2 ^ min ba.toNat 64)) = bq := b0; have dW : ba ≤ 64 → (IntKind.i64.wrap (1 * 2 ^ ba.toNat)) = bq := shl_small b0; have gf : (IntKind.i64.wrap (2 ^ min ba.toNat 64)) = bq := by have h_ := dV; rw [Int.one_mul] at h_; exact h_
      have gg : ba ≤ 64 → (IntKind.i64.wrap (2 ^ ba.toNat)) = bq := fun hle_ => by have h_ := dW hle_; rw [Int.one_mul] at h_; exact h_
      have gh : (wrap64 (1 * 2 ^ min ba.toNat 64)) = bq := (i64_w _).symm.trans dV; have gi : ba ≤ 64 → (wrap64 (1 * 2 ^ ba.toNat)) = bq := fun h_ => (i64_w _).symm.trans (dW h_)
      have c13b0 := eq_true (of_decide_eq_true (by first | (with_reducible assumption) | assumption) : 0 ≤ ba); obtain ⟨bE, b1⟩ : ∃ j_ : Int, (shr .i64 (wrap64 ((wrap64 ((wrap64 (a1 - (bp))) + (bq))) - 1)) ba) = j_ := ⟨_, rfl⟩; replace H : (if (bg) ≤ 63 then (if (bE) ≤ 63 then (some (ba, bg, bE, true)) else (spec_Pack.l0 k1 a0 a1 (wrap64 (ba + 1)))) else (spec_Pack.l0 k1 a0 a1 (wrap64 (ba + 1)))) = some (r1, r2, r3, r4) := by first | (rw [b1] at H; exact H) | (simp only [b1] at H ⊢; exact H)
      have gj : ((wrap64 ((wrap64 ((wrap64 (a1 - (bp))) + (bq))) - 1)) / 2 ^ min ba.toNat 64) = bE := b1; have gl : ba ≤ 64 → ((wrap64 ((wrap64 ((wrap64 (a1 - (bp))) + (bq))) - 1)) / 2 ^ ba.toNat) = bE := shr_small b1
      by_cases c15 : (bg) ≤ 63
      ·rw [if_pos c15] at H
       have c15b0 : decide ((bg) ≤ 63) = true := decide_eq_true c15; clear c15
       by_cases c16 : (bE) ≤ 63
       ·rw [if_pos c16] at H
        have c16b0 : decide ((bE) ≤ 63) = true := decide_eq_true c16; clear c16; simp only [Option.some.injEq, Prod.mk.injEq] at H; obtain ⟨rfl, rfl, rfl, rfl⟩ := H; obtain ⟨dX, dY, dZ⟩ := c3e bf; obtain ⟨d0, d1, d2⟩ := z3_ bf; go_wp2
        repeat (go_quiet (fail); try go_wp2)
        refine bodyPost_ret (results_ct rfl _ _ bC 65 #[.int .i64 ba, .int .i64 bg, .int .i64 bE] (0, 0) _ rfl (q3 bf) Try.underlying65 rfl (by kernel_rfl)) rfl ?_; exact ⟨by first | rfl | (simp [errW_none, errW_some] <;> rfl) | (simp only [← bY, ← bZ, ← b0, ← b1]; first | rfl | (simp [errW_none, errW_some] <;> rfl)) | (simp [*, errW_none, errW_some] <;> rfl), nbe HB⟩
       ·rw [if_neg c16] at H
        have c16b0 : decide ((bE) ≤ 63) = false := decide_eq_false c16; clear c16; have H' := Aside0.mk H; clear H; go_wp2
        repeat (go_quiet (fail); try go_wp2)
        go_roundg k1
        case measure => have := dk.out; omega
        case rel => exact ⟨(wrap64 (ba + 1)), (dh), (di), (dj), (by first | rfl | (simp; done) | (simp [*]; done)), H', ⟨by have := dk.out; omega⟩, ⟨nb bf⟩, ⟨nbe HB⟩⟩
      ·rw [if_neg c15] at H
       have c15b0 : decide ((bg) ≤ 63) = false := decide_eq_false c15; clear c15; have H' := Aside0.mk H; clear H; go_wp2
       repeat (go_quiet (fail); try go_wp2)
       go_roundg k1
       case measure => have := dk.out; omega
       case rel => exact ⟨(wrap64 (ba + 1)), (dh), (di), (dj), (by first | rfl | (simp; done) | (simp [*]; done)), H', ⟨by have := dk.out; omega⟩, ⟨nb bf⟩, ⟨nbe HB⟩⟩
     ·rw [if_neg c7] at H
      exact absurd H (by simp)
    ·rw [if_neg c6] at H
     have c6b0 : decide (ba ≤ 6) = false := decide_eq_false c6; clear c6; simp only [Option.some.injEq, Prod.mk.injEq] at H; obtain ⟨rfl, rfl, rfl, rfl⟩ := H; obtain ⟨dA, dB, dC⟩ := c3e bf; obtain ⟨dD, dE, dF⟩ := z3_ bf; go_wp2
     repeat (go_quiet (fail); try go_wp2)
     refine bodyPost_ret (results_ct rfl _ _ bC 65 #[.int .i64 0, .int .i64 0, .int .i64 0] (0, 0) _ rfl (q3 bf) Try.underlying65 rfl (by kernel_rfl)) rfl ?_; exact ⟨er_, nbe HB⟩
 ·replace c4 := Bool.eq_false_iff.mpr c4
  subst c4; have H1 : (some (0, 0, 0, false)) = some (r1, r2, r3, r4) := by rw [if_neg (show ¬ (false = true) by decide)] at H; exact H
  clear H; have H := H1; clear H1; simp only [Option.some.injEq, Prod.mk.injEq] at H; obtain ⟨rfl, rfl, rfl, rfl⟩ := H
  go_enter Try.func53, Try.ntmps53
  go_wp2_with (first | ((with_reducible refine gate_dst (N := 4) rfl ?_); refine bxe 4 #[.int .i64 0, .int .i64 0, .int .i64 0] 65 ?_; intro bC hg b2 hbox hb; have bf := hbox; have bW := nge HB hg; have bX := nge HB hg; replace HB := nbs HB hb; clear hb hbox hg) | (go_at_call 42; (with_reducible refine (spec_BoundsOk.calls a0 a1 false _ A3.out).mono ?_); rintro e w' ⟨rfl, ⟨nd, rfl⟩⟩; (try first | exact ⟨rfl, _, World.drewN_drewN _ _ _⟩ | exact ⟨rfl, _, Eq.trans (World.drewN_drewN _ _ _) (congrArg (World.drewN _) (Nat.add_assoc _ _ _))⟩); obtain ⟨b3, b4, b5⟩ := c3e bf; obtain ⟨b6, b7, b8⟩ := z3_ bf))
  repeat (go_quiet (first | ((with_reducible refine gate_dst (N := 4) rfl ?_); refine bxe 4 #[.int .i64 0, .int .i64 0, .int .i64 0] 65 ?_; intro bC hg b2 hbox hb; have bf := hbox; have bW := nge HB hg; have bX := nge HB hg; replace HB := nbs HB hb; clear hb hbox hg) | (go_at_call 42; (with_reducible refine (spec_BoundsOk.calls a0 a1 false _ A3.out).mono ?_); rintro e w' ⟨rfl, ⟨nd, rfl⟩⟩; (try first | exact ⟨rfl, _, World.drewN_drewN _ _ _⟩ | exact ⟨rfl, _, Eq.trans (World.drewN_drewN _ _ _) (congrArg (World.drewN _) (Nat.add_assoc _ _ _))⟩); obtain ⟨b3, b4, b5⟩ := c3e bf; obtain ⟨b6, b7, b8⟩ := z3_ bf)); try go_wp2_with (first | ((with_reducible refine gate_dst (N := 4) rfl ?_); refine bxe 4 #[.int .i64 0, .int .i64 0, .int .i64 0] 65 ?_; intro bC hg b2 hbox hb; have bf := hbox; have bW := nge HB hg; have bX := nge HB hg; replace HB := nbs HB hb; clear hb hbox hg) | (go_at_call 42; (with_reducible refine (spec_BoundsOk.calls a0 a1 false _ A3.out).mono ?_); rintro e w' ⟨rfl, ⟨nd, rfl⟩⟩; (try first | exact ⟨rfl, _, World.drewN_drewN _ _ _⟩ | exact ⟨rfl, _, Eq.trans (World.drewN_drewN _ _ _) (congrArg (World.drewN _) (Nat.add_assoc _ _ _))⟩); obtain ⟨b3, b4, b5⟩ := c3e bf; obtain ⟨b6, b7, b8⟩ := z3_ bf)))
  refine bodyPost_ret (results_ct rfl _ _ bC 65 #[.int .i64 0, .int .i64 0, .int .i64 0] (0, 0) _ rfl (q3 bf) Try.underlying65 rfl (by kernel_rfl)) rfl ?_; exact ⟨er_, nbe HB⟩

/-! ### spec_l1Min: function 58 -/
def spec_l1Min.f (a0 : Int) (a1 : Int) : Option (Int) := if a0 < a1 then (some a0) else (some a1)
set_option maxHeartbeats 8000000 in
set_option maxRecDepth 100000 in
theorem spec_l1Min.calls (a0 : Int) (a1 : Int) (r : Int) (w : World) (h : spec_l1Min.f a0 a1 = some r) :
  Calls Try.prog 58 #[.int .i64 a0, .int .i64 a1] w fun e w' => e = .returned (.int .i64 r) ∧ Drawn0 w w' := by
 have H : (if a0 < a1 then (some a0) else (some a1)) = some r := h; clear h
 by_cases c3 : a0 < a1
 ·rw [if_pos c3] at H
  have c3b0 : decide (a0 < a1) = true := decide_eq_true c3; clear c3; obtain rfl := Option.some.inj H
  go_enter Try.func58, Try.ntmps58
  go_wp2
  go_ret
  exact ⟨by first | rfl | (simp; done) | (simp [*]; done), by repeat (first | exact Drawn0.refl _ | apply Drawn0.step)⟩
 ·rw [if_neg c3] at H
  have c3b0 : decide (a0 < a1) = false := decide_eq_false c3; clear c3; obtain rfl := Option.some.inj H
  go_enter Try.func58, Try.ntmps58
  go_wp2
  go_ret
  exact ⟨by first | rfl | (simp; done) | (simp [*]; done), by repeat (first | exact Drawn0.refl _ | apply Drawn0.step)⟩

/-! ### spec_Unpack: function 54 -/
def spec_Unpack.f (a0_0 : Int) (a0_1 : Int) (a0_2 : Int) : Option (Int × Int × Bool) := (spec_l1In.f a0_0 0 6).bind fun bP => (if bP = true then ((spec_l1In.f a0_1 0 63).bind fun bx => (if bx = true then ((spec_l1In.f a0_2 0 63).bind fun bl => (if bl = true then (if 0 ≤ a0_0 then ((spec_l1Min.f (shl .i64 (wrap64 (a0_1 + a0_2)) a0_0) 4096).bind fun bd => (some (shl .i64 a0_1 a0_0, bd, true))) else (none)) else (some (0, 0, false)))) else (some (0, 0, false)))) else (some (0, 0, false)))
set_option maxHeartbeats 8000000 in
set_option maxRecDepth 100000 in
theorem spec_Unpack.calls (a0_0 : Int) (a0_1 : Int) (a0_2 : Int) (r1 : Int) (r2 : Int) (r3 : Bool) (w : World) (h : spec_Unpack.f a0_0 a0_1 a0_2 = some (r1, r2, r3)) :
  Calls Try.prog 54 #[.agg #[.int .i64 a0_0, .int .i64 a0_1, .int .i64 a0_2]] w fun e w' => e = .returned (.tuple #[.int .i64 r1, .int .i64 r2, .bool r3]) ∧ Below w.heap.size w w' := by
 have hu65 := Try.underlying65; have HB := Aside0.mk (Below.refl w.heap.size w); have H : ((spec_l1In.f a0_0 0 6).bind fun bP => (if bP = true then ((spec_l1In.f a0_1 0 63).bind fun bx => (if bx = true then ((spec_l1In.f a0_2 0 63).bind fun bl => (if bl = true then (if 0 ≤ a0_0 then ((spec_l1Min.f (shl .i64 (wrap64 (a0_1 + a0_2)) a0_0) 4096).bind fun bd => (some (shl .i64 a0_1 a0_0, bd, true))) else (none)) else (some (0, 0, false)))) else (some (0, 0, false)))) else (some (0, 0, false)))) = some (r1, r2, r3) := h; clear h; replace H := Option.bind_eq_some_iff.mp H; obtain ⟨bP, A20, H⟩ := H; replace H : (if bP = true then ((spec_l1In.f a0_1 0 63).bind fun bx => (if bx = true then ((spec_l1In.f a0_2 0 63).bind fun bl => (if bl = true then (if 0 ≤ a0_0 then ((spec_l1Min.f (shl .i64 (wrap64 (a0_1 + a0_2)) a0_0) 4096).bind fun bd => (some (shl .i64 a0_1 a0_0, bd, true))) else (none)) else (some (0, 0, false)))) else (some (0, 0, false)))) else (some (0, 0, false))) = some (r1, r2, r3) := H; have A2 := Aside0.mk A20; clear A20
 by_cases c3 : bP = true
 ·subst c3
  have H1 : ((spec_l1In.f a0_1 0 63).bind fun bx => (if bx = true then ((spec_l1In.f a0_2 0 63).bind fun bl => (if bl = true then (if 0 ≤ a0_0 then ((spec_l1Min.f (shl .i64 (wrap64 (a0_1 + a0_2)) a0_0) 4096).bind fun bd => (some (shl .i64 a0_1 a0_0, bd, true))) else (none)) else (some (0, 0, false)))) else (some (0, 0, false)))) = some (r1, r2, r3) := by rw [if_pos rfl] at H; exact H
  clear H; have H := H1; clear H1; replace H := Option.bind_eq_some_iff.mp H; obtain ⟨bx, A40, H⟩ := H; replace H : (if bx = true then ((spec_l1In.f a0_2 0 63).bind fun bl => (if bl = true then (if 0 ≤ a0_0 then ((spec_l1Min.f (shl .i64 (wrap64 (a0_1 + a0_2)) a0_0) 4096).bind fun bd => (some (shl .i64 a0_1 a0_0, bd, true))) else (none)) else (some (0, 0, false)))) else (some (0, 0, false))) = some (r1, r2, r3) := H; have A4 := Aside0.mk A40; clear A40
  by_cases c5 : bx = true
  ·subst c5
   have H1 : ((spec_l1In.f a0_2 0 63).bind fun bl => (if bl = true then (if 0 ≤ a0_0 then ((spec_l1Min.f (shl .i64 (wrap64 (a0_1 + a0_2)) a0_0) 4096).bind fun bd => (some (shl .i64 a0_1 a0_0, bd, true))) else (none)) else (some (0, 0, false)))) = some (r1, r2, r3) := by rw [if_pos rfl] at H; exact H
   clear H; have H := H1; clear H1; replace H := Option.bind_eq_some_iff.mp H; obtain ⟨bl, A60, H⟩ := H; replace H : (if bl = true then (if 0 ≤ a0_0 then ((spec_l1Min.f (shl .i64 (wrap64 (a0_1 + a0_2)) a0_0) 4096).bind fun bd => (some (shl .i64 a0_1 a0_0, bd, true))) else (none)) else (some (0, 0, false))) = some (r1, r2, r3) := H; have A6 := Aside0.mk A60; clear A60
   by_cases c7 : bl = true
   ·subst c7
    have H1 : (if 0 ≤ a0_0 then ((spec_l1Min.f (shl .i64 (wrap64 (a0_1 + a0_2)) a0_0) 4096).bind fun bd => (some (shl .i64 a0_1 a0_0, bd, true))) else (none)) = some (r1, r2, r3) := by rw [if_pos rfl] at H; exact H
    clear H; have H := H1; clear H1
    by_cases c8 : 0 ≤ a0_0
    ·rw [if_pos c8] at H
     have c8b0 := eq_true c8; have c8b1 : decide (0 ≤ a0_0) = true := decide_eq_true c8; clear c8; obtain ⟨bM, bF⟩ : ∃ j_ : Int, (shl .i64 a0_1 a0_0) = j_ := ⟨_, rfl⟩; replace H : ((spec_l1Min.f (shl .i64 (wrap64 (a0_1 + a0_2)) a0_0) 4096).bind fun bd => (some (bM, bd, true))) = some (r1, r2, r3) := by first | (rw [bF] at H; exact H) | (simp only [bF] at H ⊢; exact H)
     (try rw [bF] at A2); (try rw [bF] at A4); (try rw [bF] at A6); have et : (IntKind.i64.wrap (a0_1 * 2 ^ min a0_0.toNat 64)) = bM := bF; have eu : a0_0 ≤ 64 → (IntKind.i64.wrap (a0_1 * 2 ^ a0_0.toNat)) = bM := shl_small bF; have gm : (wrap64 (a0_1 * 2 ^ min a0_0.toNat 64)) = bM := (i64_w _).symm.trans et; have gn : a0_0 ≤ 64 → (wrap64 (a0_1 * 2 ^ a0_0.toNat)) = bM := fun h_ => (i64_w _).symm.trans (eu h_)
     have c10b0 := eq_true (of_decide_eq_true (by first | (with_reducible assumption) | assumption) : 0 ≤ a0_0); obtain ⟨bG, bH⟩ : ∃ j_ : Int, (shl .i64 (wrap64 (a0_1 + a0_2)) a0_0) = j_ := ⟨_, rfl⟩; replace H : ((spec_l1Min.f (bG) 4096).bind fun bd => (some (bM, bd, true))) = some (r1, r2, r3) := by first | (rw [bH] at H; exact H) | (simp only [bH] at H ⊢; exact H)
     (try rw [bH] at A2); (try rw [bH] at A4); (try rw [bH] at A6); have ev : (IntKind.i64.wrap ((wrap64 (a0_1 + a0_2)) * 2 ^ min a0_0.toNat 64)) = bG := bH; have ew : a0_0 ≤ 64 → (IntKind.i64.wrap ((wrap64 (a0_1 + a0_2)) * 2 ^ a0_0.toNat)) = bG := shl_small bH; have gp : (wrap64 ((wrap64 (a0_1 + a0_2)) * 2 ^ min a0_0.toNat 64)) = bG := (i64_w _).symm.trans ev; have gq : a0_0 ≤ 64 → (wrap64 ((wrap64 (a0_1 + a0_2)) * 2 ^ a0_0.toNat)) = bG := fun h_ => (i64_w _).symm.trans (ew h_)
     replace H := Option.bind_eq_some_iff.mp H; obtain ⟨bd, A120, H⟩ := H; replace H : (some (bM, bd, true)) = some (r1, r2, r3) := H; have A12 := Aside0.mk A120; clear A120; simp only [Option.some.injEq, Prod.mk.injEq] at H; obtain ⟨rfl, rfl, rfl⟩ := H
     go_enter Try.func54, Try.ntmps54
     go_wp2_with (first | ((with_reducible refine gate_dst (N := 1) rfl ?_); refine bxe 1 #[.int .i64 a0_0, .int .i64 a0_1, .int .i64 a0_2] 65 ?_; intro br hg bQ hbox hb; have bb := hbox; have bs := nge HB hg; have bt := nge HB hg; replace HB := nbs HB hb; clear hb hbox hg; obtain ⟨b9, da, db⟩ := c3e bb; obtain ⟨dc, dd, de⟩ := z3_ bb) | (go_at_call 39; (with_reducible refine (spec_l1In.calls a0_0 0 6 true _ A2.out).mono ?_); rintro e w' ⟨rfl, ⟨nd, rfl⟩⟩; (try first | exact ⟨rfl, _, World.drewN_drewN _ _ _⟩ | exact ⟨rfl, _, Eq.trans (World.drewN_drewN _ _ _) (congrArg (World.drewN _) (Nat.add_assoc _ _ _))⟩)) | (go_at_call 39; (with_reducible refine (spec_l1In.calls a0_1 0 63 true _ A4.out).mono ?_); rintro e w' ⟨rfl, ⟨nd, rfl⟩⟩; (try first | exact ⟨rfl, _, World.drewN_drewN _ _ _⟩ | exact ⟨rfl, _, Eq.trans (World.drewN_drewN _ _ _) (congrArg (World.drewN _) (Nat.add_assoc _ _ _))⟩)) | (go_at_call 39; (with_reducible refine (spec_l1In.calls a0_2 0 63 true _ A6.out).mono ?_); rintro e w' ⟨rfl, ⟨nd, rfl⟩⟩; (try first | exact ⟨rfl, _, World.drewN_drewN _ _ _⟩ | exact ⟨rfl, _, Eq.trans (World.drewN_drewN _ _ _) (congrArg (World.drewN _) (Nat.add_assoc _ _ _))⟩)) | (go_at_call 58; (with_reducible refine (spec_l1Min.calls bG 4096 bd _ A12.out).mono ?_); rintro e w' ⟨rfl, ⟨nd, rfl⟩⟩; (try first | exact ⟨rfl, _, World.drewN_drewN _ _ _⟩ | exact ⟨rfl, _, Eq.trans (World.drewN_drewN _ _ _) (congrArg (World.drewN _) (Nat.add_assoc _ _ _))⟩)))
     repeat (go_quiet (first | ((with_reducible refine gate_dst (N := 1) rfl ?_); refine bxe 1 #[.int .i64 a0_0, .int .i64 a0_1, .int .i64 a0_2] 65 ?_; intro br hg bQ hbox hb; have bb := hbox; have bs := nge HB hg; have bt := nge HB hg; replace HB := nbs HB hb; clear hb hbox hg; obtain ⟨b9, da, db⟩ := c3e bb; obtain ⟨dc, dd, de⟩ := z3_ bb) | (go_at_call 39; (with_reducible refine (spec_l1In.calls a0_0 0 6 true _ A2.out).mono ?_); rintro e w' ⟨rfl, ⟨nd, rfl⟩⟩; (try first | exact ⟨rfl, _, World.drewN_drewN _ _ _⟩ | exact ⟨rfl, _, Eq.trans (World.drewN_drewN _ _ _) (congrArg (World.drewN _) (Nat.add_assoc _ _ _))⟩)) | (go_at_call 39; (with_reducible refine (spec_l1In.calls a0_1 0 63 true _ A4.out).mono ?_); rintro e w' ⟨rfl, ⟨nd, rfl⟩⟩; (try first | exact ⟨rfl, _, World.drewN_drewN _ _ _⟩ | exact ⟨rfl, _, Eq.trans (World.drewN_drewN _ _ _) (congrArg (World.drewN _) (Nat.add_assoc _ _ _))⟩)) | (go_at_call 39; (with_reducible refine (spec_l1In.calls a0_2 0 63 true _ A6.out).mono ?_); rintro e w' ⟨rfl, ⟨nd, rfl⟩⟩; (try first | exact ⟨rfl, _, World.drewN_drewN _ _ _⟩ | exact ⟨rfl, _, Eq.trans (World.drewN_drewN _ _ _) (congrArg (World.drewN _) (Nat.add_assoc _ _ _))⟩)) | (go_at_call 58; (with_reducible refine (spec_l1Min.calls bG 4096 bd _ A12.out).mono ?_); rintro e w' ⟨rfl, ⟨nd, rfl⟩⟩; (try first | exact ⟨rfl, _, World.drewN_drewN _ _ _⟩ | exact ⟨rfl, _, Eq.trans (World.drewN_drewN _ _ _) (congrArg (World.drewN _) (Nat.add_assoc _ _ _))⟩))); try go_wp2_with (first | ((with_reducible refine gate_dst (N := 1) rfl ?_); refine bxe 1 #[.int .i64 a0_0, .int .i64 a0_1, .int .i64 a0_2] 65 ?_; intro br hg bQ hbox hb; have bb := hbox; have bs := nge HB hg; have bt := nge HB hg; replace HB := nbs HB hb; clear hb hbox hg; obtain ⟨b9, da, db⟩ := c3e bb; obtain ⟨dc, dd, de⟩ := z3_ bb) | (go_at_call 39; (with_reducible refine (spec_l1In.calls a0_0 0 6 true _ A2.out).mono ?_); rintro e w' ⟨rfl, ⟨nd, rfl⟩⟩; (try first | exact ⟨rfl, _, World.drewN_drewN _ _ _⟩ | exact ⟨rfl, _, Eq.trans (World.drewN_drewN _ _ _) (congrArg (World.drewN _) (Nat.add_assoc _ _ _))⟩)) | (go_at_call 39; (with_reducible refine (spec_l1In.calls a0_1 0 63 true _ A4.out).mono ?_); rintro e w' ⟨rfl, ⟨nd, rfl⟩⟩; (try first | exact ⟨rfl, _, World.drewN_drewN _ _ _⟩ | exact ⟨rfl, _, Eq.trans (World.drewN_drewN _ _ _) (congrArg (World.drewN _) (Nat.add_assoc _ _ _))⟩)) | (go_at_call 39; (with_reducible refine (spec_l1In.calls a0_2 0 63 true _ A6.out).mono ?_); rintro e w' ⟨rfl, ⟨nd, rfl⟩⟩; (try first | exact ⟨rfl, _, World.drewN_drewN _ _ _⟩ | exact ⟨rfl, _, Eq.trans (World.drewN_drewN _ _ _) (congrArg (World.drewN _) (Nat.add_assoc _ _ _))⟩)) | (go_at_call 58; (with_reducible refine (spec_l1Min.calls bG 4096 bd _ A12.out).mono ?_); rintro e w' ⟨rfl, ⟨nd, rfl⟩⟩; (try first | exact ⟨rfl, _, World.drewN_drewN _ _ _⟩ | exact ⟨rfl, _, Eq.trans (World.drewN_drewN _ _ _) (congrArg (World.drewN _) (Nat.add_assoc _ _ _))⟩))))
     go_ret3
     exact ⟨by first | rfl | (simp [errW_none, errW_some] <;> rfl) | (simp only [← bF, ← bH]; first | rfl | (simp [errW_none, errW_some] <;> rfl)) | (simp [*, errW_none, errW_some] <;> rfl), nbe HB⟩
    ·rw [if_neg c8] at H
     exact absurd H (by simp)
   ·replace c7 := Bool.eq_false_iff.mpr c7
    subst c7; have H1 : (some (0, 0, false)) = some (r1, r2, r3) := by rw [if_neg (show ¬ (false = true) by decide)] at H; exact H
    clear H; have H := H1; clear H1; simp only [Option.some.injEq, Prod.mk.injEq] at H; obtain ⟨rfl, rfl, rfl⟩ := H
    go_enter Try.func54, Try.ntmps54
    go_wp2_with (first | ((with_reducible refine gate_dst (N := 1) rfl ?_); refine bxe 1 #[.int .i64 a0_0, .int .i64 a0_1, .int .i64 a0_2] 65 ?_; intro br hg df hbox hb; have bb := hbox; have bs := nge HB hg; have bt := nge HB hg; replace HB := nbs HB hb; clear hb hbox hg; obtain ⟨dl, dm, dn⟩ := c3e bb; obtain ⟨dp, dq, dr⟩ := z3_ bb) | (go_at_call 39; (with_reducible refine (spec_l1In.calls a0_0 0 6 true _ A2.out).mono ?_); rintro e w' ⟨rfl, ⟨nd, rfl⟩⟩; (try first | exact ⟨rfl, _, World.drewN_drewN _ _ _⟩ | exact ⟨rfl, _, Eq.trans (World.drewN_drewN _ _ _) (congrArg (World.drewN _) (Nat.add_assoc _ _ _))⟩)) | (go_at_call 39; (with_reducible refine (spec_l1In.calls a0_1 0 63 true _ A4.out).mono ?_); rintro e w' ⟨rfl, ⟨nd, rfl⟩⟩; (try first | exact ⟨rfl, _, World.drewN_drewN _ _ _⟩ | exact ⟨rfl, _, Eq.trans (World.drewN_drewN _ _ _) (congrArg (World.drewN _) (Nat.add_assoc _ _ _))⟩)) | (go_at_call 39; (with_reducible refine (spec_l1In.calls a0_2 0 63 false _ A6.out).mono ?_); rintro e w' ⟨rfl, ⟨nd, rfl⟩⟩; (try first | exact ⟨rfl, _, World.drewN_drewN _ _ _⟩ | exact ⟨rfl, _, Eq.trans (World.drewN_drewN _ _ _) (congrArg (World.drewN _) (Nat.add_assoc _ _ _))⟩)))
    repeat (go_quiet (first | ((with_reducible refine gate_dst (N := 1) rfl ?_); refine bxe 1 #[.int .i64 a0_0, .int .i64 a0_1, .int .i64 a0_2] 65 ?_; intro br hg df hbox hb; have bb := hbox; have bs := nge HB hg; have bt := nge HB hg; replace HB := nbs HB hb; clear hb hbox hg; obtain ⟨dl, dm, dn⟩ := c3e bb; obtain ⟨dp, dq, dr⟩ := z3_ bb) | (go_at_call 39; (with_reducible refine (spec_l1In.calls a0_0 0 6 true _ A2.out).mono ?_); rintro e w' ⟨rfl, ⟨nd, rfl⟩⟩; (try first | exact ⟨rfl, _, World.drewN_drewN _ _ _⟩ | exact ⟨rfl, _, Eq.trans (World.drewN_drewN _ _ _) (congrArg (World.drewN _) (Nat.add_assoc _ _ _))⟩)) | (go_at_call 39; (with_reducible refine (spec_l1In.calls a0_1 0 63 true _ A4.out).mono ?_); rintro e w' ⟨rfl, ⟨nd, rfl⟩⟩; (try first | exact ⟨rfl, _, World.drewN_drewN _ _ _⟩ | exact ⟨rfl, _, Eq.trans (World.drewN_drewN _ _ _) (congrArg (World.drewN _) (Nat.add_assoc _ _ _))⟩)) | (go_at_call 39; (with_reducible refine (spec_l1In.calls a0_2 0 63 false _ A6.out).mono ?_); rintro e w' ⟨rfl, ⟨nd, rfl⟩⟩; (try first | exact ⟨rfl, _, World.drewN_drewN _ _ _⟩ | exact ⟨rfl, _, Eq.trans (World.drewN_drewN _ _ _) (congrArg (World.drewN _) (Nat.add_assoc _ _ _))⟩))); try go_wp2_with (first | ((with_reducible refine gate_dst (N := 1) rfl ?_); refine bxe 1 #[.int .i64 a0_0, .int .i64 a0_1, .int .i64 a0_2] 65 ?_; intro br hg df hbox hb; have bb := hbox; have bs := nge HB hg; have bt := nge HB hg; replace HB := nbs HB hb; clear hb hbox hg; obtain ⟨dl, dm, dn⟩ := c3e bb; obtain ⟨dp, dq, dr⟩ := z3_ bb) | (go_at_call 39; (with_reducible refine (spec_l1In.calls a0_0 0 6 true _ A2.out).mono ?_); rintro e w' ⟨rfl, ⟨nd, rfl⟩⟩; (try first | exact ⟨rfl, _, World.drewN_drewN _ _ _⟩ | exact ⟨rfl, _, Eq.trans (World.drewN_drewN _ _ _) (congrArg (World.drewN _) (Nat.add_assoc _ _ _))⟩)) | (go_at_call 39; (with_reducible refine (spec_l1In.calls a0_1 0 63 true _ A4.out).mono ?_); rintro e w' ⟨rfl, ⟨nd, rfl⟩⟩; (try first | exact ⟨rfl, _, World.drewN_drewN _ _ _⟩ | exact ⟨rfl, _, Eq.trans (World.drewN_drewN _ _ _) (congrArg (World.drewN _) (Nat.add_assoc _ _ _))⟩)) | (go_at_call 39; (with_reducible refine (spec_l1In.calls a0_2 0 63 false _ A6.out).mono ?_); rintro e w' ⟨rfl, ⟨nd, rfl⟩⟩; (try first | exact ⟨rfl, _, World.drewN_drewN _ _ _⟩ | exact ⟨rfl, _, Eq.trans (World.drewN_drewN _ _ _) (congrArg (World.drewN _) (Nat.add_assoc _ _ _))⟩))))
    go_ret3
    exact ⟨er_, nbe HB⟩
  ·replace c5 := Bool.eq_false_iff.mpr c5
   subst c5; have H1 : (some (0, 0, false)) = some (r1, r2, r3) := by rw [if_neg (show ¬ (false = true) by decide)] at H; exact H
   clear H; have H := H1; clear H1; simp only [Option.some.injEq, Prod.mk.injEq] at H; obtain ⟨rfl, rfl, rfl⟩ := H
   go_enter Try.func54, Try.ntmps54
   go_wp2_with (first | ((with_reducible refine gate_dst (N := 1) rfl ?_); refine bxe 1 #[.int .i64 a0_0, .int .i64 a0_1, .int .i64 a0_2] 65 ?_; intro br hg ds hbox hb; have bb := hbox; have bs := nge HB hg; have bt := nge HB hg; replace HB := nbs HB hb; clear hb hbox hg; obtain ⟨dA, dB, dC⟩ := c3e bb; obtain ⟨dD, dE, dF⟩ := z3_ bb) | (go_at_call 39; (with_reducible refine (spec_l1In.calls a0_0 0 6 true _ A2.out).mono ?_); rintro e w' ⟨rfl, ⟨nd, rfl⟩⟩; (try first | exact ⟨rfl, _, World.drewN_drewN _ _ _⟩ | exact ⟨rfl, _, Eq.trans (World.drewN_drewN _ _ _) (congrArg (World.drewN _) (Nat.add_assoc _ _ _))⟩)) | (go_at_call 39; (with_reducible refine (spec_l1In.calls a0_1 0 63 false _ A4.out).mono ?_); rintro e w' ⟨rfl, ⟨nd, rfl⟩⟩; (try first | exact ⟨rfl, _, World.drewN_drewN _ _ _⟩ | exact ⟨rfl, _, Eq.trans (World.drewN_drewN _ _ _) (congrArg (World.drewN _) (Nat.add_assoc _ _ _))⟩)))
   repeat (go_quiet (first | ((with_reducible refine gate_dst (N := 1) rfl ?_); refine bxe 1 #[.int .i64 a0_0, .int .i64 a0_1, .int .i64 a0_2] 65 ?_; intro br hg ds hbox hb; have bb := hbox; have bs := nge HB hg; have bt := nge HB hg; replace HB := nbs HB hb; clear hb hbox hg; obtain ⟨dA, dB, dC⟩ := c3e bb; obtain ⟨dD, dE, dF⟩ := z3_ bb) | (go_at_call 39; (with_reducible refine (spec_l1In.calls a0_0 0 6 true _ A2.out).mono ?_); rintro e w' ⟨rfl, ⟨nd, rfl⟩⟩; (try first | exact ⟨rfl, _, World.drewN_drewN _ _ _⟩ | exact ⟨rfl, _, Eq.trans (World.drewN_drewN _ _ _) (congrArg (World.drewN _) (Nat.add_assoc _ _ _))⟩)) | (go_at_call 39; (with_reducible refine (spec_l1In.calls a0_1 0 63 false _ A4.out).mono ?_); rintro e w' ⟨rfl, ⟨nd, rfl⟩⟩; (try first | exact ⟨rfl, _, World.drewN_drewN _ _ _⟩ | exact ⟨rfl, _, Eq.trans (World.drewN_drewN _ _ _) (congrArg (World.drewN _) (Nat.add_assoc _ _ _))⟩))); try go_wp2_with (first | ((with_reducible refine gate_dst (N := 1) rfl ?_); refine bxe 1 #[.int .i64 a0_0, .int .i64 a0_1, .int .i64 a0_2] 65 ?_; intro br hg ds hbox hb; have bb := hbox; have bs := nge HB hg; have bt := nge HB hg; replace HB := nbs HB hb; clear hb hbox hg; obtain ⟨dA, dB, dC⟩ := c3e bb; obtain ⟨dD, dE, dF⟩ := z3_ bb) | (go_at_call 39; (with_reducible refine (spec_l1In.calls a0_0 0 6 true _ A2.out).mono ?_); rintro e w' ⟨rfl, ⟨nd, rfl⟩⟩; (try first | exact ⟨rfl, _, World.drewN_drewN _ _ _⟩ | exact ⟨rfl, _, Eq.trans (World.drewN_drewN _ _ _) (congrArg (World.drewN _) (Nat.add_assoc _ _ _))⟩)) | (go_at_call 39; (with_reducible refine (spec_l1In.calls a0_1 0 63 false _ A4.out).mono ?_); rintro e w' ⟨rfl, ⟨nd, rfl⟩⟩; (try first | exact ⟨rfl, _, World.drewN_drewN _ _ _⟩ | exact ⟨rfl, _, Eq.trans (World.drewN_drewN _ _ _) (congrArg (World.drewN _) (Nat.add_assoc _ _ _))⟩))))
   go_ret3
   exact ⟨er_, nbe HB⟩
 ·replace c3 := Bool.eq_false_iff.mpr c3
  subst c3; have H1 : (some (0, 0, false)) = some (r1, r2, r3) := by rw [if_neg (show ¬ (false = true) by decide)] at H; exact H
  clear H; have H := H1; clear H1; simp only [Option.some.injEq, Prod.mk.injEq] at H; obtain ⟨rfl, rfl, rfl⟩ := H
  go_enter Try.func54, Try.ntmps54
  go_wp2_with (first | ((with_reducible refine gate_dst (N := 1) rfl ?_); refine bxe 1 #[.int .i64 a0_0, .int .i64 a0_1, .int .i64 a0_2] 65 ?_; intro br hg b2 hbox hb; have bb := hbox; have bs := nge HB hg; have bt := nge HB hg; replace HB := nbs HB hb; clear hb hbox hg; obtain ⟨b3, b4, b5⟩ := c3e bb; obtain ⟨b6, b7, b8⟩ := z3_ bb) | (go_at_call 39; (with_reducible refine (spec_l1In.calls a0_0 0 6 false _ A2.out).mono ?_); rintro e w' ⟨rfl, ⟨nd, rfl⟩⟩; (try first | exact ⟨rfl, _, World.drewN_drewN _ _ _⟩ | exact ⟨rfl, _, Eq.trans (World.drewN_drewN _ _ _) (congrArg (World.drewN _) (Nat.add_assoc _ _ _))⟩)))
  repeat (go_quiet (first | ((with_reducible refine gate_dst (N := 1) rfl ?_); refine bxe 1 #[.int .i64 a0_0, .int .i64 a0_1, .int .i64 a0_2] 65 ?_; intro br hg b2 hbox hb; have bb := hbox; have bs := nge HB hg; have bt := nge HB hg; replace HB := nbs HB hb; clear hb hbox hg; obtain ⟨b3, b4, b5⟩ := c3e bb; obtain ⟨b6, b7, b8⟩ := z3_ bb) | (go_at_call 39; (with_reducible refine (spec_l1In.calls a0_0 0 6 false _ A2.out).mono ?_); rintro e w' ⟨rfl, ⟨nd, rfl⟩⟩; (try first | exact ⟨rfl, _, World.drewN_drewN _ _ _⟩ | exact ⟨rfl, _, Eq.trans (World.drewN_drewN _ _ _) (congrArg (World.drewN _) (Nat.add_assoc _ _ _))⟩))); try go_wp2_with (first | ((with_reducible refine gate_dst (N := 1) rfl ?_); refine bxe 1 #[.int .i64 a0_0, .int .i64 a0_1, .int .i64 a0_2] 65 ?_; intro br hg b2 hbox hb; have bb := hbox; have bs := nge HB hg; have bt := nge HB hg; replace HB := nbs HB hb; clear hb hbox hg; obtain ⟨b3, b4, b5⟩ := c3e bb; obtain ⟨b6, b7, b8⟩ := z3_ bb) | (go_at_call 39; (with_reducible refine (spec_l1In.calls a0_0 0 6 false _ A2.out).mono ?_); rintro e w' ⟨rfl, ⟨nd, rfl⟩⟩; (try first | exact ⟨rfl, _, World.drewN_drewN _ _ _⟩ | exact ⟨rfl, _, Eq.trans (World.drewN_drewN _ _ _) (congrArg (World.drewN _) (Nat.add_assoc _ _ _))⟩))))
  go_ret3
  exact ⟨er_, nbe HB⟩

/-! ### spec_Wide: function 43 -/
def spec_Wide.f (k : Nat) (a0 : Int) (a1 : Int) : Option (Int × Int) := (spec_Pack.f k a0 a1).bind fun bD => (if bD.2.2.2 = true then ((spec_Unpack.f bD.1 bD.2.1 bD.2.2.1).bind fun bu => (some (bu.1, bu.2.1))) else ((spec_BoundsOk.f a0 a1).bind fun bz => (if bz = true then (some (0, 4096)) else (some (0, 0)))))
theorem spec_Wide.mono : ∀ a0 a1 k, LeO (spec_Wide.f k a0 a1) (spec_Wide.f (k + 1) a0 a1) := by
 intro a0 a1 k
 unfold spec_Wide.f
 repeat' first
   | (with_reducible exact spec_Pack.mono _ _ _)
   | (with_reducible exact LeO.refl _)
   | (with_reducible exact LeO.none _)
   | (with_reducible refine LeO.ite ?_ ?_)
   | (with_reducible refine LeO.bind ?_ (fun _ => ?_))
   | exact spec_Pack.mono _ _ _
   | exact LeO.none _
   | refine LeO.ite ?_ ?_
   | refine LeO.bind ?_ (fun _ => ?_)
set_option maxHeartbeats 8000000 in
set_option maxRecDepth 100000 in
theorem spec_Wide.calls (k : Nat) (a0 : Int) (a1 : Int) (r1 : Int) (r2 : Int) (w : World) (h : spec_Wide.f k a0 a1 = some (r1, r2)) :
  Calls Try.prog 43 #[.int .i64 a0, .int .i64 a1] w fun e w' => e = .returned (.tuple #[.int .i64 r1, .int .i64 r2]) ∧ Below w.heap.size w w' := by
 have hu65 := Try.underlying65; have HB := Aside0.mk (Below.refl w.heap.size w); have H : ((spec_Pack.f k a0 a1).bind fun bD => (if bD.2.2.2 = true then ((spec_Unpack.f bD.1 bD.2.1 bD.2.2.1).bind fun bu => (some (bu.1, bu.2.1))) else ((spec_BoundsOk.f a0 a1).bind fun bz => (if bz = true then (some (0, 4096)) else (some (0, 0)))))) = some (r1, r2) := h; clear h; replace H := Option.bind_eq_some_iff.mp H; obtain ⟨⟨bI, bJ, bK, d3⟩, A30, H⟩ := H; replace H : (if d3 = true then ((spec_Unpack.f bI bJ bK).bind fun bu => (some (bu.1, bu.2.1))) else ((spec_BoundsOk.f a0 a1).bind fun bz => (if bz = true then (some (0, 4096)) else (some (0, 0))))) = some (r1, r2) := H; have A3 := Aside0.mk A30; clear A30
 by_cases c4 : d3 = true
 ·subst c4
  have H1 : ((spec_Unpack.f bI bJ bK).bind fun bu => (some (bu.1, bu.2.1))) = some (r1, r2) := by rw [if_pos rfl] at H; exact H
  clear H; have H := H1; clear H1; replace H := Option.bind_eq_some_iff.mp H; obtain ⟨⟨d4, d5, ex⟩, A50, H⟩ := H; replace H : (some (d4, d5)) = some (r1, r2) := H; have A5 := Aside0.mk A50; clear A50; simp only [Option.some.injEq, Prod.mk.injEq] at H; obtain ⟨rfl, rfl⟩ := H
  go_enter Try.func43, Try.ntmps43
  go_wp2_with (first | ((with_reducible refine gate_callee (f := 53) rfl ?_); refine goesM (some 14) rfl rfl Try.func53 (by kernel_rfl) rfl #[.int .i64 a0, .int .i64 a1] rfl ?_; (with_reducible refine (spec_Pack.calls k a0 a1 bI bJ bK true _ A3.out).mono ?_); rintro e w6 ⟨rfl, hb⟩; refine ⟨_, rfl, ?_⟩; replace HB := nbs HB hb; (try clear hb)) | ((with_reducible refine gate_dst (N := 6) rfl ?_); refine bxe 6 #[.int .i64 0, .int .i64 0, .int .i64 0] 65 ?_; intro dG hg w7 hbox hb; have bA := hbox; have d6 := nge HB hg; have d7 := nge HB hg; replace HB := nbs HB hb; clear hb hbox hg; obtain ⟨dt, du, dv⟩ := c3e bA; obtain ⟨dw, dx, dy⟩ := z3_ bA) | ((with_reducible refine gate_callee (f := 54) rfl ?_); refine goesM (some 24) rfl rfl Try.func54 (by kernel_rfl) rfl #[.agg #[.int .i64 bI, .int .i64 bJ, .int .i64 bK]] rfl ?_; (with_reducible refine (spec_Unpack.calls bI bJ bK d4 d5 ex _ A5.out).mono ?_); rintro e w9 ⟨rfl, hb⟩; refine ⟨_, rfl, ?_⟩; replace bA := Aside0.mk (blk_below (g := dG) (o := .cells #[.int .i64 bI, .int .i64 bJ, .int .i64 bK] 65 (0, 0)) (q3 bA) hb); replace HB := nbs HB hb; (try clear hb)))
  go_ret2
  exact ⟨er_, nbe HB⟩
 ·replace c4 := Bool.eq_false_iff.mpr c4
  subst c4; have H1 : ((spec_BoundsOk.f a0 a1).bind fun bz => (if bz = true then (some (0, 4096)) else (some (0, 0)))) = some (r1, r2) := by rw [if_neg (show ¬ (false = true) by decide)] at H; exact H
  clear H; have H := H1; clear H1; replace H := Option.bind_eq_some_iff.mp H; obtain ⟨bz, A100, H⟩ := H; replace H : (if bz = true then (some (0, 4096)) else (some (0, 0))) = some (r1, r2) := H; have A10 := Aside0.mk A100; clear A100
  by_cases c11 : bz = true
  ·subst c11
   have H1 : (some (0, 4096)) = some (r1, r2) := by rw [if_pos rfl] at H; exact H
   clear H; have H := H1; clear H1; simp only [Option.some.injEq, Prod.mk.injEq] at H; obtain ⟨rfl, rfl⟩ := H
   go_enter Try.func43, Try.ntmps43
   go_wp2_with (first | ((with_reducible refine gate_callee (f := 53) rfl ?_); refine goesM (some 14) rfl rfl Try.func53 (by kernel_rfl) rfl #[.int .i64 a0, .int .i64 a1] rfl ?_; (with_reducible refine (spec_Pack.calls k a0 a1 bI bJ bK false _ A3.out).mono ?_); rintro e ey ⟨rfl, hb⟩; refine ⟨_, rfl, ?_⟩; replace HB := nbs HB hb; (try clear hb)) | ((with_reducible refine gate_dst (N := 6) rfl ?_); refine bxe 6 #[.int .i64 0, .int .i64 0, .int .i64 0] 65 ?_; intro dG hg bQ hbox hb; have bA := hbox; have d6 := nge HB hg; have d7 := nge HB hg; replace HB := nbs HB hb; clear hb hbox hg; obtain ⟨b9, da, db⟩ := c3e bA; obtain ⟨dc, dd, de⟩ := z3_ bA) | ((with_reducible refine gate_callee (f := 42) rfl ?_); refine goesM (some 21) rfl rfl Try.func42 (by kernel_rfl) rfl #[.int .i64 a0, .int .i64 a1] rfl ?_; (with_reducible refine (spec_BoundsOk.calls a0 a1 true _ A10.out).mono ?_); rintro e w' ⟨rfl, ⟨nd, rfl⟩⟩; refine ⟨_, rfl, ?_⟩))
   go_ret2
   exact ⟨er_, nbe HB⟩
  ·replace c11 := Bool.eq_false_iff.mpr c11
   subst c11; have H1 : (some (0, 0)) = some (r1, r2) := by rw [if_neg (show ¬ (false = true) by decide)] at H; exact H
   clear H; have H := H1; clear H1; simp only [Option.some.injEq, Prod.mk.injEq] at H; obtain ⟨rfl, rfl⟩ := H
   go_enter Try.func43, Try.ntmps43
   go_wp2_with (first | ((with_reducible refine gate_callee (f := 53) rfl ?_); refine goesM (some 14) rfl rfl Try.func53 (by kernel_rfl) rfl #[.int .i64 a0, .int .i64 a1] rfl ?_; (with_reducible refine (spec_Pack.calls k a0 a1 bI bJ bK false _ A3.out).mono ?_); rintro e df ⟨rfl, hb⟩; refine ⟨_, rfl, ?_⟩; replace HB := nbs HB hb; (try clear hb)) | ((with_reducible refine gate_dst (N := 6) rfl ?_); refine bxe 6 #[.int .i64 0, .int .i64 0, .int .i64 0] 65 ?_; intro dG hg ez hbox hb; have bA := hbox; have d6 := nge HB hg; have d7 := nge HB hg; replace HB := nbs HB hb; clear hb hbox hg; obtain ⟨dX, dY, dZ⟩ := c3e bA; obtain ⟨d0, d1, d2⟩ := z3_ bA) | ((with_reducible refine gate_callee (f := 42) rfl ?_); refine goesM (some 21) rfl rfl Try.func42 (by kernel_rfl) rfl #[.int .i64 a0, .int .i64 a1] rfl ?_; (with_reducible refine (spec_BoundsOk.calls a0 a1 false _ A10.out).mono ?_); rintro e w' ⟨rfl, ⟨nd, rfl⟩⟩; refine ⟨_, rfl, ?_⟩))
   go_ret2
   exact ⟨er_, nbe HB⟩

/-! ### spec_Exact: function 52 -/
def spec_Exact.f (k : Nat) (a0 : Int) (a1 : Int) : Option (Bool) := (spec_Wide.f k a0 a1).bind fun dg => ((spec_BoundsOk.f a0 a1).bind fun bL => (if bL = true then (if dg.1 = a0 then (some (dg.2 == a1)) else (some false)) else (some false)))
theorem spec_Exact.mono : ∀ a0 a1 k, LeO (spec_Exact.f k a0 a1) (spec_Exact.f (k + 1) a0 a1) := by
 intro a0 a1 k
 unfold spec_Exact.f
 repeat' first
   | (with_reducible exact spec_Wide.mono _ _ _)
   | (with_reducible exact LeO.refl _)
   | (with_reducible exact LeO.none _)
   | (with_reducible refine LeO.ite ?_ ?_)
   | (with_reducible refine LeO.bind ?_ (fun _ => ?_))
   | exact spec_Wide.mono _ _ _
   | exact LeO.none _
   | refine LeO.ite ?_ ?_
   | refine LeO.bind ?_ (fun _ => ?_)
set_option maxHeartbeats 8000000 in
set_option maxRecDepth 100000 in
theorem spec_Exact.calls (k : Nat) (a0 : Int) (a1 : Int) (r : Bool) (w : World) (h : spec_Exact.f k a0 a1 = some r) :
  Calls Try.prog 52 #[.int .i64 a0, .int .i64 a1] w fun e w' => e = .returned (.bool r) ∧ Below w.heap.size w w' := by
 have HB := Aside0.mk (Below.refl w.heap.size w); have H : ((spec_Wide.f k a0 a1).bind fun dg => ((spec_BoundsOk.f a0 a1).bind fun bL => (if bL = true then (if dg.1 = a0 then (some (dg.2 == a1)) else (some false)) else (some false)))) = some r := h; clear h; replace H := Option.bind_eq_some_iff.mp H; obtain ⟨⟨bv, bR⟩, A30, H⟩ := H; replace H : ((spec_BoundsOk.f a0 a1).bind fun bL => (if bL = true then (if bv = a0 then (some (bR == a1)) else (some false)) else (some false))) = some r := H; have A3 := Aside0.mk A30; clear A30; replace H := Option.bind_eq_some_iff.mp H; obtain ⟨bL, A40, H⟩ := H; replace H : (if bL = true then (if bv = a0 then (some (bR == a1)) else (some false)) else (some false)) = some r := H; have A4 := Aside0.mk A40; clear A40
 by_cases c5 : bL = true
 ·subst c5
  have H1 : (if bv = a0 then (some (bR == a1)) else (some false)) = some r := by rw [if_pos rfl] at H; exact H
  clear H; have H := H1; clear H1
  by_cases c6 : bv = a0
  ·rw [if_pos c6] at H
   have c6b0 : (bv == a0) = true := beq_iff_eq.mpr c6; have c6b1 : (bv != a0) = false := bne_eq_false_iff_eq.mpr c6; clear c6; obtain rfl := Option.some.inj H
   go_enter Try.func52, Try.ntmps52
   go_wp2_with (first | ((with_reducible refine gate_callee (f := 43) rfl ?_); refine goesM (some 10) rfl rfl Try.func43 (by kernel_rfl) rfl #[.int .i64 a0, .int .i64 a1] rfl ?_; (with_reducible refine (spec_Wide.calls k a0 a1 bv bR _ A3.out).mono ?_); rintro e w7 ⟨rfl, hb⟩; refine ⟨_, rfl, ?_⟩; replace HB := nbs HB hb; (try clear hb)) | ((with_reducible refine gate_callee (f := 42) rfl ?_); refine goesM (some 15) rfl rfl Try.func42 (by kernel_rfl) rfl #[.int .i64 a0, .int .i64 a1] rfl ?_; (with_reducible refine (spec_BoundsOk.calls a0 a1 true _ A4.out).mono ?_); rintro e w' ⟨rfl, ⟨nd, rfl⟩⟩; refine ⟨_, rfl, ?_⟩))
   go_ret
   exact ⟨er_, nbe HB⟩
  ·rw [if_neg c6] at H
   have c6b0 : (bv == a0) = false := beq_eq_false_iff_ne.mpr c6; have c6b1 : (bv != a0) = true := bne_iff_ne.mpr c6; obtain rfl := Option.some.inj H
   go_enter Try.func52, Try.ntmps52
   go_wp2_with (first | ((with_reducible refine gate_callee (f := 43) rfl ?_); refine goesM (some 10) rfl rfl Try.func43 (by kernel_rfl) rfl #[.int .i64 a0, .int .i64 a1] rfl ?_; (with_reducible refine (spec_Wide.calls k a0 a1 bv bR _ A3.out).mono ?_); rintro e w8 ⟨rfl, hb⟩; refine ⟨_, rfl, ?_⟩; replace HB := nbs HB hb; (try clear hb)) | ((with_reducible refine gate_callee (f := 42) rfl ?_); refine goesM (some 15) rfl rfl Try.func42 (by kernel_rfl) rfl #[.int .i64 a0, .int .i64 a1] rfl ?_; (with_reducible refine (spec_BoundsOk.calls a0 a1 true _ A4.out).mono ?_); rintro e w' ⟨rfl, ⟨nd, rfl⟩⟩; refine ⟨_, rfl, ?_⟩))
   go_ret
   exact ⟨er_, nbe HB⟩
 ·replace c5 := Bool.eq_false_iff.mpr c5
  subst c5; have H1 : (some false) = some r := by rw [if_neg (show ¬ (false = true) by decide)] at H; exact H
  clear H; have H := H1; clear H1; obtain rfl := Option.some.inj H
  go_enter Try.func52, Try.ntmps52
  go_wp2_with (first | ((with_reducible refine gate_callee (f := 43) rfl ?_); refine goesM (some 10) rfl rfl Try.func43 (by kernel_rfl) rfl #[.int .i64 a0, .int .i64 a1] rfl ?_; (with_reducible refine (spec_Wide.calls k a0 a1 bv bR _ A3.out).mono ?_); rintro e w9 ⟨rfl, hb⟩; refine ⟨_, rfl, ?_⟩; replace HB := nbs HB hb; (try clear hb)) | ((with_reducible refine gate_callee (f := 42) rfl ?_); refine goesM (some 15) rfl rfl Try.func42 (by kernel_rfl) rfl #[.int .i64 a0, .int .i64 a1] rfl ?_; (with_reducible refine (spec_BoundsOk.calls a0 a1 false _ A4.out).mono ?_); rintro e w' ⟨rfl, ⟨nd, rfl⟩⟩; refine ⟨_, rfl, ?_⟩))
  go_ret
  exact ⟨er_, nbe HB⟩

/-! ### spec_KeyOk: function 40 -/
def spec_KeyOk.f (k : Nat) (a0_0 : Int) (a0_1 : Int) (a0_2 : Int) (a0_3 : Int) : Option (Bool) := (spec_Exact.f k a0_0 a0_1).bind fun bS => (if bS = true then ((spec_l1In.f a0_2 0 63).bind fun bB => (if bB = true then ((spec_l1In.f a0_3 0 7).bind fun bm => (some bm)) else (some false))) else (some false))
theorem spec_KeyOk.mono : ∀ a0 a1 a2 a3 k, LeO (spec_KeyOk.f k a0 a1 a2 a3) (spec_KeyOk.f (k + 1) a0 a1 a2 a3) := by
 intro a0 a1 a2 a3 k
 unfold spec_KeyOk.f
 repeat' first
   | (with_reducible exact spec_Exact.mono _ _ _)
   | (with_reducible exact LeO.refl _)
   | (with_reducible exact LeO.none _)
   | (with_reducible refine LeO.ite ?_ ?_)
   | (with_reducible refine LeO.bind ?_ (fun _ => ?_))
   | exact spec_Exact.mono _ _ _
   | exact LeO.none _
   | refine LeO.ite ?_ ?_
   | refine LeO.bind ?_ (fun _ => ?_)
set_option maxHeartbeats 8000000 in
set_option maxRecDepth 100000 in
theorem spec_KeyOk.calls (k : Nat) (a0_0 : Int) (a0_1 : Int) (a0_2 : Int) (a0_3 : Int) (r : Bool) (w : World) (h : spec_KeyOk.f k a0_0 a0_1 a0_2 a0_3 = some r) :
  Calls Try.prog 40 #[.agg #[.int .i64 a0_0, .int .i64 a0_1, .int .i64 a0_2, .int .i64 a0_3]] w fun e w' => e = .returned (.bool r) ∧ Below w.heap.size w w' := by
 have hu28 := Try.underlying28; have HB := Aside0.mk (Below.refl w.heap.size w); have H : ((spec_Exact.f k a0_0 a0_1).bind fun bS => (if bS = true then ((spec_l1In.f a0_2 0 63).bind fun bB => (if bB = true then ((spec_l1In.f a0_3 0 7).bind fun bm => (some bm)) else (some false))) else (some false))) = some r := h; clear h; replace H := Option.bind_eq_some_iff.mp H; obtain ⟨bS, A20, H⟩ := H; replace H : (if bS = true then ((spec_l1In.f a0_2 0 63).bind fun bB => (if bB = true then ((spec_l1In.f a0_3 0 7).bind fun bm => (some bm)) else (some false))) else (some false)) = some r := H; have A2 := Aside0.mk A20; clear A20
 by_cases c3 : bS = true
 ·subst c3
  have H1 : ((spec_l1In.f a0_2 0 63).bind fun bB => (if bB = true then ((spec_l1In.f a0_3 0 7).bind fun bm => (some bm)) else (some false))) = some r := by rw [if_pos rfl] at H; exact H
  clear H; have H := H1; clear H1; replace H := Option.bind_eq_some_iff.mp H; obtain ⟨bB, A40, H⟩ := H; replace H : (if bB = true then ((spec_l1In.f a0_3 0 7).bind fun bm => (some bm)) else (some false)) = some r := H; have A4 := Aside0.mk A40; clear A40
  by_cases c5 : bB = true
  ·subst c5
   have H1 : ((spec_l1In.f a0_3 0 7).bind fun bm => (some bm)) = some r := by rw [if_pos rfl] at H; exact H
   clear H; have H := H1; clear H1; replace H := Option.bind_eq_some_iff.mp H; obtain ⟨bm, A60, H⟩ := H; replace H : (some bm) = some r := H; have A6 := Aside0.mk A60; clear A60; obtain rfl := Option.some.inj H
   go_enter Try.func40, Try.ntmps40
   go_wp2_with (first | ((with_reducible refine gate_dst (N := 1) rfl ?_); refine bxe 1 #[.int .i64 a0_0, .int .i64 a0_1, .int .i64 a0_2, .int .i64 a0_3] 28 ?_; intro d8 hg w7 hbox hb; have bi := hbox; have d9 := nge HB hg; have ea := nge HB hg; replace HB := nbs HB hb; clear hb hbox hg; obtain ⟨dt, du, dv, dH⟩ := c4e bi; obtain ⟨dw, dx, dy, dI⟩ := z4_ bi) | ((with_reducible refine gate_callee (f := 52) rfl ?_); refine goesM (some 7) rfl rfl Try.func52 (by kernel_rfl) rfl #[.int .i64 a0_0, .int .i64 a0_1] rfl ?_; (with_reducible refine (spec_Exact.calls k a0_0 a0_1 true _ A2.out).mono ?_); rintro e w9 ⟨rfl, hb⟩; refine ⟨_, rfl, ?_⟩; replace bi := nblk bi hb; replace HB := nbs HB hb; (try clear hb); obtain ⟨eb, ec, ed, ee⟩ := c4e bi; obtain ⟨ef, eg, eh, ei⟩ := z4_ bi) | (go_at_call 39; (with_reducible refine (spec_l1In.calls a0_2 0 63 true _ A4.out).mono ?_); rintro e w' ⟨rfl, ⟨nd, rfl⟩⟩) | (go_at_call 39; (with_reducible refine (spec_l1In.calls a0_3 0 7 bm _ A6.out).mono ?_); rintro e w' ⟨rfl, ⟨nd, rfl⟩⟩))
   go_ret
   exact ⟨er_, nbe HB⟩
  ·replace c5 := Bool.eq_false_iff.mpr c5
   subst c5; have H1 : (some false) = some r := by rw [if_neg (show ¬ (false = true) by decide)] at H; exact H
   clear H; have H := H1; clear H1; obtain rfl := Option.some.inj H
   go_enter Try.func40, Try.ntmps40
   go_wp2_with (first | ((with_reducible refine gate_dst (N := 1) rfl ?_); refine bxe 1 #[.int .i64 a0_0, .int .i64 a0_1, .int .i64 a0_2, .int .i64 a0_3] 28 ?_; intro d8 hg eA hbox hb; have bi := hbox; have d9 := nge HB hg; have ea := nge HB hg; replace HB := nbs HB hb; clear hb hbox hg; obtain ⟨eB, eC, eD, eE⟩ := c4e bi; obtain ⟨eF, eG, eH, eI⟩ := z4_ bi) | ((with_reducible refine gate_callee (f := 52) rfl ?_); refine goesM (some 7) rfl rfl Try.func52 (by kernel_rfl) rfl #[.int .i64 a0_0, .int .i64 a0_1] rfl ?_; (with_reducible refine (spec_Exact.calls k a0_0 a0_1 true _ A2.out).mono ?_); rintro e bQ ⟨rfl, hb⟩; refine ⟨_, rfl, ?_⟩; replace bi := nblk bi hb; replace HB := nbs HB hb; (try clear hb); obtain ⟨b9, da, db, eJ⟩ := c4e bi; obtain ⟨dc, dd, de, eK⟩ := z4_ bi) | (go_at_call 39; (with_reducible refine (spec_l1In.calls a0_2 0 63 false _ A4.out).mono ?_); rintro e w' ⟨rfl, ⟨nd, rfl⟩⟩))
   go_ret
   exact ⟨er_, nbe HB⟩
 ·replace c3 := Bool.eq_false_iff.mpr c3
  subst c3; have H1 : (some false) = some r := by rw [if_neg (show ¬ (false = true) by decide)] at H; exact H
  clear H; have H := H1; clear H1; obtain rfl := Option.some.inj H
  go_enter Try.func40, Try.ntmps40
  go_wp2_with (first | ((with_reducible refine gate_dst (N := 1) rfl ?_); refine bxe 1 #[.int .i64 a0_0, .int .i64 a0_1, .int .i64 a0_2, .int .i64 a0_3] 28 ?_; intro d8 hg df hbox hb; have bi := hbox; have d9 := nge HB hg; have ea := nge HB hg; replace HB := nbs HB hb; clear hb hbox hg; obtain ⟨dl, dm, dn, eL⟩ := c4e bi; obtain ⟨dp, dq, dr, eM⟩ := z4_ bi) | ((with_reducible refine gate_callee (f := 52) rfl ?_); refine goesM (some 7) rfl rfl Try.func52 (by kernel_rfl) rfl #[.int .i64 a0_0, .int .i64 a0_1] rfl ?_; (with_reducible refine (spec_Exact.calls k a0_0 a0_1 false _ A2.out).mono ?_); rintro e ds ⟨rfl, hb⟩; refine ⟨_, rfl, ?_⟩; replace bi := nblk bi hb; replace HB := nbs HB hb; (try clear hb)))
  go_ret
  exact ⟨er_, nbe HB⟩

/-! ### spec_WordOk: function 23 -/
def spec_WordOk.f (k : Nat) (a0_0 : Int) (a0_1 : Bool) (a0_2 : Int) (a0_3 : Int) (a0_4 : Int) (a0_5 : Int) : Option (Bool) := (spec_l1In.f a0_0 0 65535).bind fun bT => (if bT = true then (if a0_1 = true then ((spec_KeyOk.f k a0_2 a0_3 a0_4 a0_5).bind fun bo => (if bo = true then (some true) else (some false))) else (some (a0_2 == 0 && (a0_3 == 0 && (a0_4 == 0 && (a0_5 == 0)))))) else (some false))
theorem spec_WordOk.mono : ∀ a0 a1 a2 a3 a4 a5 k, LeO (spec_WordOk.f k a0 a1 a2 a3 a4 a5) (spec_WordOk.f (k + 1) a0 a1 a2 a3 a4 a5) := by
 intro a0 a1 a2 a3 a4 a5 k
 unfold spec_WordOk.f
 repeat' first
   | (with_reducible exact spec_KeyOk.mono _ _ _ _ _)
   | (with_reducible exact LeO.refl _)
   | (with_reducible exact LeO.none _)
   | (with_reducible refine LeO.ite ?_ ?_)
   | (with_reducible refine LeO.bind ?_ (fun _ => ?_))
   | exact spec_KeyOk.mono _ _ _ _ _
   | exact LeO.none _
   | refine LeO.ite ?_ ?_
   | refine LeO.bind ?_ (fun _ => ?_)
set_option maxHeartbeats 8000000 in
set_option maxRecDepth 100000 in
theorem spec_WordOk.calls (k : Nat) (a0_0 : Int) (a0_1 : Bool) (a0_2 : Int) (a0_3 : Int) (a0_4 : Int) (a0_5 : Int) (r : Bool) (w : World) (h : spec_WordOk.f k a0_0 a0_1 a0_2 a0_3 a0_4 a0_5 = some r) :
  Calls Try.prog 23 #[.agg #[.int .i64 a0_0, .bool a0_1, .int .i64 a0_2, .int .i64 a0_3, .int .i64 a0_4, .int .i64 a0_5]] w fun e w' => e = .returned (.bool r) ∧ Below w.heap.size w w' := by
 have hu30 := Try.underlying30; have hu28 := Try.underlying28; have HB := Aside0.mk (Below.refl w.heap.size w); have H : ((spec_l1In.f a0_0 0 65535).bind fun bT => (if bT = true then (if a0_1 = true then ((spec_KeyOk.f k a0_2 a0_3 a0_4 a0_5).bind fun bo => (if bo = true then (some true) else (some false))) else (some (a0_2 == 0 && (a0_3 == 0 && (a0_4 == 0 && (a0_5 == 0)))))) else (some false))) = some r := h; clear h; replace H := Option.bind_eq_some_iff.mp H; obtain ⟨bT, A20, H⟩ := H; replace H : (if bT = true then (if a0_1 = true then ((spec_KeyOk.f k a0_2 a0_3 a0_4 a0_5).bind fun bo => (if bo = true then (some true) else (some false))) else (some (a0_2 == 0 && (a0_3 == 0 && (a0_4 == 0 && (a0_5 == 0)))))) else (some false)) = some r := H; have A2 := Aside0.mk A20; clear A20
 by_cases c3 : bT = true
 ·subst c3
  have H1 : (if a0_1 = true then ((spec_KeyOk.f k a0_2 a0_3 a0_4 a0_5).bind fun bo => (if bo = true then (some true) else (some false))) else (some (a0_2 == 0 && (a0_3 == 0 && (a0_4 == 0 && (a0_5 == 0)))))) = some r := by rw [if_pos rfl] at H; exact H
  clear H; have H := H1; clear H1
  by_cases c4 : a0_1 = true
  ·subst c4
   have H1 : ((spec_KeyOk.f k a0_2 a0_3 a0_4 a0_5).bind fun bo => (if bo = true then (some true) else (some false))) = some r := by rw [if_pos rfl] at H; exact H
   clear H; have H := H1; clear H1; replace H := Option.bind_eq_some_iff.mp H; obtain ⟨bo, A50, H⟩ := H; replace H : (if bo = true then (some true) else (some false)) = some r := H; have A5 := Aside0.mk A50; clear A50
   by_cases c6 : bo = true
   ·subst c6
    have H1 : (some true) = some r := by rw [if_pos rfl] at H; exact H
    clear H; have H := H1; clear H1; obtain rfl := Option.some.inj H
    go_enter Try.func23, Try.ntmps23
    go_wp2_with (first | ((with_reducible refine gate_dst (N := 1) rfl ?_); refine bxe 1 #[.int .i64 a0_0, .bool true, .int .i64 a0_2, .int .i64 a0_3, .int .i64 a0_4, .int .i64 a0_5] 30 ?_; intro dJ hg w7 hbox hb; have bk := hbox; have dK := nge HB hg; have dL := nge HB hg; replace HB := nbs HB hb; clear hb hbox hg; obtain ⟨dt, du, dv, dH, ej, ek⟩ := c6e bk; obtain ⟨dw, dx, dy, dI, el, em⟩ := z6_ bk) | ((with_reducible refine gate_callee (f := 39) rfl ?_); refine goesM (some 5) rfl rfl Try.func39 (by kernel_rfl) rfl #[.int .i64 a0_0, .int .i64 0, .int .i64 65535] rfl ?_; (with_reducible refine (spec_l1In.calls a0_0 0 65535 true _ A2.out).mono ?_); rintro e w' ⟨rfl, ⟨nd, rfl⟩⟩; refine ⟨_, rfl, ?_⟩) | (go_at_call 40; (with_reducible refine (spec_KeyOk.calls k a0_2 a0_3 a0_4 a0_5 true _ A5.out).mono ?_); rintro e w9 ⟨rfl, hb⟩; replace bk := nblk bk hb; replace HB := nbs HB hb; (try clear hb)))
    go_ret
    exact ⟨er_, nbe HB⟩
   ·replace c6 := Bool.eq_false_iff.mpr c6
    subst c6; have H1 : (some false) = some r := by rw [if_neg (show ¬ (false = true) by decide)] at H; exact H
    clear H; have H := H1; clear H1; obtain rfl := Option.some.inj H
    go_enter Try.func23, Try.ntmps23
    go_wp2_with (first | ((with_reducible refine gate_dst (N := 1) rfl ?_); refine bxe 1 #[.int .i64 a0_0, .bool true, .int .i64 a0_2, .int .i64 a0_3, .int .i64 a0_4, .int .i64 a0_5] 30 ?_; intro dJ hg gr hbox hb; have bk := hbox; have dK := nge HB hg; have dL := nge HB hg; replace HB := nbs HB hb; clear hb hbox hg; obtain ⟨eN, eO, eP, eQ, eR, eS⟩ := c6e bk; obtain ⟨eT, eU, eV, eW, eX, eY⟩ := z6_ bk) | ((with_reducible refine gate_callee (f := 39) rfl ?_); refine goesM (some 5) rfl rfl Try.func39 (by kernel_rfl) rfl #[.int .i64 a0_0, .int .i64 0, .int .i64 65535] rfl ?_; (with_reducible refine (spec_l1In.calls a0_0 0 65535 true _ A2.out).mono ?_); rintro e w' ⟨rfl, ⟨nd, rfl⟩⟩; refine ⟨_, rfl, ?_⟩) | (go_at_call 40; (with_reducible refine (spec_KeyOk.calls k a0_2 a0_3 a0_4 a0_5 false _ A5.out).mono ?_); rintro e ey ⟨rfl, hb⟩; replace bk := nblk bk hb; replace HB := nbs HB hb; (try clear hb); obtain ⟨gs, gt, gu, gv, gw, gx⟩ := c6e bk; obtain ⟨gy, gz, gA, gB, gC, gD⟩ := z6_ bk))
    go_ret
    exact ⟨er_, nbe HB⟩
  ·replace c4 := Bool.eq_false_iff.mpr c4
   subst c4; have H1 : (some (a0_2 == 0 && (a0_3 == 0 && (a0_4 == 0 && (a0_5 == 0))))) = some r := by rw [if_neg (show ¬ (false = true) by decide)] at H; exact H
   clear H; have H := H1; clear H1; obtain rfl := Option.some.inj H
   go_enter Try.func23, Try.ntmps23
   go_wp2_with (first | ((with_reducible refine gate_dst (N := 1) rfl ?_); refine bxe 1 #[.int .i64 a0_0, .bool false, .int .i64 a0_2, .int .i64 a0_3, .int .i64 a0_4, .int .i64 a0_5] 30 ?_; intro dJ hg eZ hbox hb; have bk := hbox; have dK := nge HB hg; have dL := nge HB hg; replace HB := nbs HB hb; clear hb hbox hg; obtain ⟨gE, gF, gG, gH, gI, gJ⟩ := c6e bk; obtain ⟨gK, gL, gM, gN, gO, gP⟩ := z6_ bk) | ((with_reducible refine gate_callee (f := 39) rfl ?_); refine goesM (some 5) rfl rfl Try.func39 (by kernel_rfl) rfl #[.int .i64 a0_0, .int .i64 0, .int .i64 65535] rfl ?_; (with_reducible refine (spec_l1In.calls a0_0 0 65535 true _ A2.out).mono ?_); rintro e w' ⟨rfl, ⟨nd, rfl⟩⟩; refine ⟨_, rfl, ?_⟩))
   go_ret
   exact ⟨er_, nbe HB⟩
 ·replace c3 := Bool.eq_false_iff.mpr c3
  subst c3; have H1 : (some false) = some r := by rw [if_neg (show ¬ (false = true) by decide)] at H; exact H
  clear H; have H := H1; clear H1; obtain rfl := Option.some.inj H
  go_enter Try.func23, Try.ntmps23
  go_wp2_with (first | ((with_reducible refine gate_dst (N := 1) rfl ?_); refine bxe 1 #[.int .i64 a0_0, .bool a0_1, .int .i64 a0_2, .int .i64 a0_3, .int .i64 a0_4, .int .i64 a0_5] 30 ?_; intro dJ hg ez hbox hb; have bk := hbox; have dK := nge HB hg; have dL := nge HB hg; replace HB := nbs HB hb; clear hb hbox hg; obtain ⟨dX, dY, dZ, gQ, gR, gS⟩ := c6e bk; obtain ⟨d0, d1, d2, gT, gU, gV⟩ := z6_ bk) | ((with_reducible refine gate_callee (f := 39) rfl ?_); refine goesM (some 5) rfl rfl Try.func39 (by kernel_rfl) rfl #[.int .i64 a0_0, .int .i64 0, .int .i64 65535] rfl ?_; (with_reducible refine (spec_l1In.calls a0_0 0 65535 false _ A2.out).mono ?_); rintro e w' ⟨rfl, ⟨nd, rfl⟩⟩; refine ⟨_, rfl, ?_⟩))
  go_ret
  exact ⟨er_, nbe HB⟩

/-! ### spec_l4Open: function 21 -/
def spec_l4Open.f (k : Nat) (a0_0 : Int) (a0_1 : Bool) (a0_2 : Int) (a0_3 : Int) (a0_4 : Int) (a0_5 : Int) : Option (Bool) := (spec_WordOk.f k a0_0 a0_1 a0_2 a0_3 a0_4 a0_5).bind fun bU => (if bU = true then (if a0_1 = true then (some (a0_5 == 0)) else (some false)) else (some false))
theorem spec_l4Open.mono : ∀ a0 a1 a2 a3 a4 a5 k, LeO (spec_l4Open.f k a0 a1 a2 a3 a4 a5) (spec_l4Open.f (k + 1) a0 a1 a2 a3 a4 a5) := by
 intro a0 a1 a2 a3 a4 a5 k
 unfold spec_l4Open.f
 repeat' first
   | (with_reducible exact spec_WordOk.mono _ _ _ _ _ _ _)
   | (with_reducible exact LeO.refl _)
   | (with_reducible exact LeO.none _)
   | (with_reducible refine LeO.ite ?_ ?_)
   | (with_reducible refine LeO.bind ?_ (fun _ => ?_))
   | exact spec_WordOk.mono _ _ _ _ _ _ _
   | exact LeO.none _
   | refine LeO.ite ?_ ?_
   | refine LeO.bind ?_ (fun _ => ?_)
set_option maxHeartbeats 8000000 in
set_option maxRecDepth 100000 in
theorem spec_l4Open.calls (k : Nat) (a0_0 : Int) (a0_1 : Bool) (a0_2 : Int) (a0_3 : Int) (a0_4 : Int) (a0_5 : Int) (r : Bool) (w : World) (h : spec_l4Open.f k a0_0 a0_1 a0_2 a0_3 a0_4 a0_5 = some r) :
  Calls Try.prog 21 #[.agg #[.int .i64 a0_0, .bool a0_1, .int .i64 a0_2, .int .i64 a0_3, .int .i64 a0_4, .int .i64 a0_5]] w fun e w' => e = .returned (.bool r) ∧ Below w.heap.size w w' := by
 have hu30 := Try.underlying30; have HB := Aside0.mk (Below.refl w.heap.size w); have H : ((spec_WordOk.f k a0_0 a0_1 a0_2 a0_3 a0_4 a0_5).bind fun bU => (if bU = true then (if a0_1 = true then (some (a0_5 == 0)) else (some false)) else (some false))) = some r := h; clear h; replace H := Option.bind_eq_some_iff.mp H; obtain ⟨bU, A20, H⟩ := H; replace H : (if bU = true then (if a0_1 = true then (some (a0_5 == 0)) else (some false)) else (some false)) = some r := H; have A2 := Aside0.mk A20; clear A20
 by_cases c3 : bU = true
 ·subst c3
  have H1 : (if a0_1 = true then (some (a0_5 == 0)) else (some false)) = some r := by rw [if_pos rfl] at H; exact H
  clear H; have H := H1; clear H1
  by_cases c4 : a0_1 = true
  ·subst c4
   have H1 : (some (a0_5 == 0)) = some r := by rw [if_pos rfl] at H; exact H
   clear H; have H := H1; clear H1; obtain rfl := Option.some.inj H
   go_enter Try.func21, Try.ntmps21
   go_wp2_with (first | ((with_reducible refine gate_dst (N := 1) rfl ?_); refine bxe 1 #[.int .i64 a0_0, .bool true, .int .i64 a0_2, .int .i64 a0_3, .int .i64 a0_4, .int .i64 a0_5] 30 ?_; intro en hg w5 hbox hb; have bj := hbox; have eo := nge HB hg; have ep := nge HB hg; replace HB := nbs HB hb; clear hb hbox hg; obtain ⟨gW, gX, gY, gZ, g0, g1⟩ := c6e bj; obtain ⟨g2, g3, g4, g5, g6, g7⟩ := z6_ bj) | ((with_reducible refine gate_callee (f := 23) rfl ?_); refine goesM (some 4) rfl rfl Try.func23 (by kernel_rfl) rfl #[.agg #[.int .i64 a0_0, .bool true, .int .i64 a0_2, .int .i64 a0_3, .int .i64 a0_4, .int .i64 a0_5]] rfl ?_; (with_reducible refine (spec_WordOk.calls k a0_0 true a0_2 a0_3 a0_4 a0_5 true _ A2.out).mono ?_); rintro e w7 ⟨rfl, hb⟩; refine ⟨_, rfl, ?_⟩; replace bj := nblk bj hb; replace HB := nbs HB hb; (try clear hb); obtain ⟨dt, du, dv, dH, ej, ek⟩ := c6e bj; obtain ⟨dw, dx, dy, dI, el, em⟩ := z6_ bj))
   go_ret
   exact ⟨er_, nbe HB⟩
  ·replace c4 := Bool.eq_false_iff.mpr c4
   subst c4; have H1 : (some false) = some r := by rw [if_neg (show ¬ (false = true) by decide)] at H; exact H
   clear H; have H := H1; clear H1; obtain rfl := Option.some.inj H
   go_enter Try.func21, Try.ntmps21
   go_wp2_with (first | ((with_reducible refine gate_dst (N := 1) rfl ?_); refine bxe 1 #[.int .i64 a0_0, .bool false, .int .i64 a0_2, .int .i64 a0_3, .int .i64 a0_4, .int .i64 a0_5] 30 ?_; intro en hg w9 hbox hb; have bj := hbox; have eo := nge HB hg; have ep := nge HB hg; replace HB := nbs HB hb; clear hb hbox hg; obtain ⟨eb, ec, ed, ee, e0, e1⟩ := c6e bj; obtain ⟨ef, eg, eh, ei, e2, e3⟩ := z6_ bj) | ((with_reducible refine gate_callee (f := 23) rfl ?_); refine goesM (some 4) rfl rfl Try.func23 (by kernel_rfl) rfl #[.agg #[.int .i64 a0_0, .bool false, .int .i64 a0_2, .int .i64 a0_3, .int .i64 a0_4, .int .i64 a0_5]] rfl ?_; (with_reducible refine (spec_WordOk.calls k a0_0 false a0_2 a0_3 a0_4 a0_5 true _ A2.out).mono ?_); rintro e eA ⟨rfl, hb⟩; refine ⟨_, rfl, ?_⟩; replace bj := nblk bj hb; replace HB := nbs HB hb; (try clear hb); obtain ⟨eB, eC, eD, eE, g8, g9⟩ := c6e bj; obtain ⟨eF, eG, eH, eI, ha, hc⟩ := z6_ bj))
   go_ret
   exact ⟨er_, nbe HB⟩
 ·replace c3 := Bool.eq_false_iff.mpr c3
  subst c3; have H1 : (some false) = some r := by rw [if_neg (show ¬ (false = true) by decide)] at H; exact H
  clear H; have H := H1; clear H1; obtain rfl := Option.some.inj H
  go_enter Try.func21, Try.ntmps21
  go_wp2_with (first | ((with_reducible refine gate_dst (N := 1) rfl ?_); refine bxe 1 #[.int .i64 a0_0, .bool a0_1, .int .i64 a0_2, .int .i64 a0_3, .int .i64 a0_4, .int .i64 a0_5] 30 ?_; intro en hg bQ hbox hb; have bj := hbox; have eo := nge HB hg; have ep := nge HB hg; replace HB := nbs HB hb; clear hb hbox hg; obtain ⟨b9, da, db, eJ, hd, hf⟩ := c6e bj; obtain ⟨dc, dd, de, eK, hh, hj⟩ := z6_ bj) | ((with_reducible refine gate_callee (f := 23) rfl ?_); refine goesM (some 4) rfl rfl Try.func23 (by kernel_rfl) rfl #[.agg #[.int .i64 a0_0, .bool a0_1, .int .i64 a0_2, .int .i64 a0_3, .int .i64 a0_4, .int .i64 a0_5]] rfl ?_; (with_reducible refine (spec_WordOk.calls k a0_0 a0_1 a0_2 a0_3 a0_4 a0_5 false _ A2.out).mono ?_); rintro e df ⟨rfl, hb⟩; refine ⟨_, rfl, ?_⟩; replace bj := nblk bj hb; replace HB := nbs HB hb; (try clear hb)))
  go_ret
  exact ⟨er_, nbe HB⟩

/-! ### spec_Plain: function 22 -/
def spec_Plain.f (a0 : Int) : Option (Int × Bool × Int × Int × Int × Int) := some (Go.bits .and .i64 a0 65535, false, 0, 0, 0, 0)
set_option maxHeartbeats 8000000 in
set_option maxRecDepth 100000 in
theorem spec_Plain.calls (a0 : Int) (r1 : Int) (r2 : Bool) (r3 : Int) (r4 : Int) (r5 : Int) (r6 : Int) (w : World) (h : spec_Plain.f a0 = some (r1, r2, r3, r4, r5, r6)) :
  Calls Try.prog 22 #[.int .i64 a0] w fun e w' => e = .returned (.agg #[.int .i64 r1, .bool r2, .int .i64 r3, .int .i64 r4, .int .i64 r5, .int .i64 r6]) ∧ Below w.heap.size w w' := by
 have hu30 := Try.underlying30; have HB := Aside0.mk (Below.refl w.heap.size w); have H : (some (Go.bits .and .i64 a0 65535, false, 0, 0, 0, 0)) = some (r1, r2, r3, r4, r5, r6) := h; clear h; simp only [Option.some.injEq, Prod.mk.injEq] at H; obtain ⟨rfl, rfl, rfl, rfl, rfl, rfl⟩ := H
 go_enter Try.func22, Try.ntmps22
 go_wp2_with (first | ((with_reducible refine gate_dst (N := 2) rfl ?_); refine bxe 2 #[.int .i64 0, .bool false, .int .i64 0, .int .i64 0, .int .i64 0, .int .i64 0] 30 ?_; intro e4 hg w2 hbox hb; have dM := hbox; have hl := nge HB hg; have hm := nge HB hg; replace HB := nbs HB hb; clear hb hbox hg; obtain ⟨hn, ho, hp, hq, hr, hs⟩ := c6e dM; obtain ⟨ht, hu, hv, hw, hx, hy⟩ := z6_ dM))
 refine bodyPost_ret (results_cell_row rfl _ _ e4 30 #[.int .i64 (Go.bits .and .i64 a0 65535), .bool false, .int .i64 0, .int .i64 0, .int .i64 0, .int .i64 0] (0, 0) _ rfl (q6 dM) Try.underlying30 rfl (by kernel_rfl)) rfl ?_; exact ⟨er_, nbe HB⟩

/-! ### spec_Point: function 9 -/
def spec_Point.f (k : Nat) (a0_0 : Int) (a0_1 : Bool) (a0_2 : Int) (a0_3 : Int) (a0_4 : Int) (a0_5 : Int) (a1 : Int) : Option (Int × Bool × Int × Int × Int × Int) := (spec_l4Open.f k a0_0 a0_1 a0_2 a0_3 a0_4 a0_5).bind fun bV => (if bV = true then (some (Go.bits .and .i64 a1 65535, a0_1, a0_2, a0_3, a0_4, a0_5)) else ((spec_Plain.f a1).bind fun bc => (some (bc.1, bc.2.1, bc.2.2.1, bc.2.2.2.1, bc.2.2.2.2.1, bc.2.2.2.2.2))))
theorem spec_Point.mono : ∀ a0 a1 a2 a3 a4 a5 a6 k, LeO (spec_Point.f k a0 a1 a2 a3 a4 a5 a6) (spec_Point.f (k + 1) a0 a1 a2 a3 a4 a5 a6) := by
 intro a0 a1 a2 a3 a4 a5 a6 k
 unfold spec_Point.f
 repeat' first
   | (with_reducible exact spec_l4Open.mono _ _ _ _ _ _ _)
   | (with_reducible exact LeO.refl _)
   | (with_reducible exact LeO.none _)
   | (with_reducible refine LeO.ite ?_ ?_)
   | (with_reducible refine LeO.bind ?_ (fun _ => ?_))
   | exact spec_l4Open.mono _ _ _ _ _ _ _
   | exact LeO.none _
   | refine LeO.ite ?_ ?_
   | refine LeO.bind ?_ (fun _ => ?_)
set_option maxHeartbeats 8000000 in
set_option maxRecDepth 100000 in
theorem spec_Point.calls (k : Nat) (a0_0 : Int) (a0_1 : Bool) (a0_2 : Int) (a0_3 : Int) (a0_4 : Int) (a0_5 : Int) (a1 : Int) (r1 : Int) (r2 : Bool) (r3 : Int) (r4 : Int) (r5 : Int) (r6 : Int) (w : World) (h : spec_Point.f k a0_0 a0_1 a0_2 a0_3 a0_4 a0_5 a1 = some (r1, r2, r3, r4, r5, r6)) :
  Calls Try.prog 9 #[.agg #[.int .i64 a0_0, .bool a0_1, .int .i64 a0_2, .int .i64 a0_3, .int .i64 a0_4, .int .i64 a0_5], .int .i64 a1] w fun e w' => e = .returned (.agg #[.int .i64 r1, .bool r2, .int .i64 r3, .int .i64 r4, .int .i64 r5, .int .i64 r6]) ∧ Below w.heap.size w w' := by
 have hu30 := Try.underlying30; have HB := Aside0.mk (Below.refl w.heap.size w); have H : ((spec_l4Open.f k a0_0 a0_1 a0_2 a0_3 a0_4 a0_5).bind fun bV => (if bV = true then (some (Go.bits .and .i64 a1 65535, a0_1, a0_2, a0_3, a0_4, a0_5)) else ((spec_Plain.f a1).bind fun bc => (some (bc.1, bc.2.1, bc.2.2.1, bc.2.2.2.1, bc.2.2.2.2.1, bc.2.2.2.2.2))))) = some (r1, r2, r3, r4, r5, r6) := h; clear h; replace H := Option.bind_eq_some_iff.mp H; obtain ⟨bV, A30, H⟩ := H; replace H : (if bV = true then (some (Go.bits .and .i64 a1 65535, a0_1, a0_2, a0_3, a0_4, a0_5)) else ((spec_Plain.f a1).bind fun bc => (some (bc.1, bc.2.1, bc.2.2.1, bc.2.2.2.1, bc.2.2.2.2.1, bc.2.2.2.2.2)))) = some (r1, r2, r3, r4, r5, r6) := H; have A3 := Aside0.mk A30; clear A30
 by_cases c4 : bV = true
 ·subst c4
  have H1 : (some (Go.bits .and .i64 a1 65535, a0_1, a0_2, a0_3, a0_4, a0_5)) = some (r1, r2, r3, r4, r5, r6) := by rw [if_pos rfl] at H; exact H
  clear H; have H := H1; clear H1; simp only [Option.some.injEq, Prod.mk.injEq] at H; obtain ⟨rfl, rfl, rfl, rfl, rfl, rfl⟩ := H
  go_enter Try.func9, Try.ntmps9
  go_wp2_with (first | ((with_reducible refine gate_dst (N := 2) rfl ?_); refine bxe 2 #[.int .i64 a0_0, .bool a0_1, .int .i64 a0_2, .int .i64 a0_3, .int .i64 a0_4, .int .i64 a0_5] 30 ?_; intro e5 hg w5 hbox hb; have bh := hbox; have e6 := nge HB hg; have e7 := nge HB hg; replace HB := nbs HB hb; clear hb hbox hg) | ((with_reducible refine gate_dst (N := 4) rfl ?_); refine bxe 4 #[.int .i64 0, .bool false, .int .i64 0, .int .i64 0, .int .i64 0, .int .i64 0] 30 ?_; intro dN hg w6 hbox hb; have bn := hbox; have e8 := nge HB hg; have e9 := nge HB hg; have dO := nlt bh hg; have dz := ngt bh hg; replace bh := nblk bh hb; replace HB := nbs HB hb; clear hb hbox hg; have hz := dO.out; have hA := dz.out; obtain ⟨dt, du, dv, dH, ej, ek⟩ := c6e bh; obtain ⟨dw, dx, dy, dI, el, em⟩ := z6_ bh) | ((with_reducible refine gate_callee (f := 21) rfl ?_); refine goesM (some 6) rfl rfl Try.func21 (by kernel_rfl) rfl #[.agg #[.int .i64 a0_0, .bool a0_1, .int .i64 a0_2, .int .i64 a0_3, .int .i64 a0_4, .int .i64 a0_5]] rfl ?_; (with_reducible refine (spec_l4Open.calls k a0_0 a0_1 a0_2 a0_3 a0_4 a0_5 true _ A3.out).mono ?_); rintro e w9 ⟨rfl, hb⟩; refine ⟨_, rfl, ?_⟩; replace bh := nblk bh hb; replace bn := nblk bn hb; replace HB := nbs HB hb; (try clear hb); obtain ⟨eb, ec, ed, ee, e0, e1⟩ := c6e bh; obtain ⟨ef, eg, eh, ei, e2, e3⟩ := z6_ bh; obtain ⟨eN, eO, eP, eQ, eR, eS⟩ := c6e bn; obtain ⟨eT, eU, eV, eW, eX, eY⟩ := z6_ bn))
  refine bodyPost_ret (results_cell_row rfl _ _ dN 30 #[.int .i64 (Go.bits .and .i64 a1 65535), .bool a0_1, .int .i64 a0_2, .int .i64 a0_3, .int .i64 a0_4, .int .i64 a0_5] (0, 0) _ rfl (p6 bn (k1_ dz.out (nb bn))) Try.underlying30 rfl (by kernel_rfl)) rfl ?_; exact ⟨er_, nbe HB⟩
 ·replace c4 := Bool.eq_false_iff.mpr c4
  subst c4; have H1 : ((spec_Plain.f a1).bind fun bc => (some (bc.1, bc.2.1, bc.2.2.1, bc.2.2.2.1, bc.2.2.2.2.1, bc.2.2.2.2.2))) = some (r1, r2, r3, r4, r5, r6) := by rw [if_neg (show ¬ (false = true) by decide)] at H; exact H
  clear H; have H := H1; clear H1; replace H := Option.bind_eq_some_iff.mp H; obtain ⟨⟨dP, dQ, dR, dS, dT, dU⟩, A120, H⟩ := H; replace H : (some (dP, dQ, dR, dS, dT, dU)) = some (r1, r2, r3, r4, r5, r6) := H; have A12 := Aside0.mk A120; clear A120; simp only [Option.some.injEq, Prod.mk.injEq] at H; obtain ⟨rfl, rfl, rfl, rfl, rfl, rfl⟩ := H
  go_enter Try.func9, Try.ntmps9
  go_wp2_with (first | ((with_reducible refine gate_dst (N := 2) rfl ?_); refine bxe 2 #[.int .i64 a0_0, .bool a0_1, .int .i64 a0_2, .int .i64 a0_3, .int .i64 a0_4, .int .i64 a0_5] 30 ?_; intro e5 hg bQ hbox hb; have bh := hbox; have e6 := nge HB hg; have e7 := nge HB hg; replace HB := nbs HB hb; clear hb hbox hg) | ((with_reducible refine gate_dst (N := 4) rfl ?_); refine bxe 4 #[.int .i64 0, .bool false, .int .i64 0, .int .i64 0, .int .i64 0, .int .i64 0] 30 ?_; intro dN hg eZ hbox hb; have bn := hbox; have e8 := nge HB hg; have e9 := nge HB hg; have dO := nlt bh hg; have dz := ngt bh hg; replace bh := nblk bh hb; replace HB := nbs HB hb; clear hb hbox hg; have hB := dO.out; have hC := dz.out; obtain ⟨dl, dm, dn, eL, hD, hE⟩ := c6e bh; obtain ⟨dp, dq, dr, eM, hF, hG⟩ := z6_ bh) | ((with_reducible refine gate_callee (f := 21) rfl ?_); refine goesM (some 6) rfl rfl Try.func21 (by kernel_rfl) rfl #[.agg #[.int .i64 a0_0, .bool a0_1, .int .i64 a0_2, .int .i64 a0_3, .int .i64 a0_4, .int .i64 a0_5]] rfl ?_; (with_reducible refine (spec_l4Open.calls k a0_0 a0_1 a0_2 a0_3 a0_4 a0_5 false _ A3.out).mono ?_); rintro e ds ⟨rfl, hb⟩; refine ⟨_, rfl, ?_⟩; replace bh := nblk bh hb; replace bn := nblk bn hb; replace HB := nbs HB hb; (try clear hb)) | ((with_reducible refine gate_callee (f := 22) rfl ?_); refine goesM (some 9) rfl rfl Try.func22 (by kernel_rfl) rfl #[.int .i64 a1] rfl ?_; (with_reducible refine (spec_Plain.calls a1 dP dQ dR dS dT dU _ A12.out).mono ?_); rintro e hH ⟨rfl, hb⟩; refine ⟨_, rfl, ?_⟩; replace bh := nblk bh hb; replace bn := nblk bn hb; replace HB := nbs HB hb; (try clear hb); obtain ⟨hI, hJ, hK, hL, hM, hN⟩ := c6e bn; obtain ⟨hO, hQ, hR, hS, hT, hU⟩ := z6_ bn))
  refine bodyPost_ret (results_cell_row rfl _ _ dN 30 #[.int .i64 dP, .bool dQ, .int .i64 dR, .int .i64 dS, .int .i64 dT, .int .i64 dU] (0, 0) _ rfl (q6 bn) Try.underlying30 rfl (by kernel_rfl)) rfl ?_; exact ⟨er_, nbe HB⟩

end Go.Proofs.Ytgfaicenpoahoaa.PFnExactWork
