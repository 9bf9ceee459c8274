-- Written by a program of this session (wip/patch.py turns a copy of the kit's print): the functions that the law reaches, and their walks.
import Derived.Test.YtiliggbholjdjaaPFnDerivedx0
import Derived.Test.YtiliggbholjdjaaPFnDerivedx1
import Derived.Test.YtiliggbholjdjaaPFnDerivedx6
import Derived.Test.YtiliggbholjdjaaCFnDerived
namespace Go.Proofs.Ytiliggbholjdjaa.PFnDerived
open Go.RowKit Go.Proofs.YtiliggbholjdjaaW.PrintWords Go.Proofs.YtiliggbholjdjaaW.PrintLast Go.Proofs.YtiliggbholjdjaaW.PrintMore Go.Proofs.YtiliggbholjdjaaW.Mine
attribute [local go_sem] max2_int min2_int max_two min_two max_three min_three max_four min_four   -- for this text's walks alone
set_option linter.unusedVariables false
set_option linter.unusedSimpArgs false

attribute [local go_sem high] eqA25
/-! ### impl_in: function 77 -/
def impl_in.f (a0 : Int) (a1 : Int) (a2 : Int) : Option (Bool) := if a0 ≥ a1 then (some (decide (a0 ≤ a2))) else (some false)
set_option maxHeartbeats 8000000 in
set_option maxRecDepth 100000 in
theorem impl_in.calls (a0 : Int) (a1 : Int) (a2 : Int) (r : Bool) (w : World) (h : impl_in.f a0 a1 a2 = some r) :
  Calls Try.prog 77 #[.int .i64 a0, .int .i64 a1, .int .i64 a2] w fun e w' => e = .returned (.bool r) ∧ Drawn0 w w' := by
 have H : (if a0 ≥ a1 then (some (decide (a0 ≤ a2))) else (some false)) = some r := h; clear h
 by_cases c4 : a0 ≥ a1
 ·rw [if_pos c4] at H
  have c4b0 : decide (a1 ≤ a0) = true := decide_eq_true c4; clear c4; obtain rfl := Option.some.inj H
  go_enter Try.func77, Try.ntmps77
  go_wp2
  go_ret
  exact ⟨by first | rfl | (simp; done) | (simp [*]; done), by repeat (first | exact Drawn0.refl _ | apply Drawn0.step)⟩
 ·rw [if_neg c4] at H
  have c4b0 : decide (a1 ≤ a0) = false := decide_eq_false c4; clear c4; obtain rfl := Option.some.inj H
  go_enter Try.func77, Try.ntmps77
  go_wp2
  go_ret
  exact ⟨by first | rfl | (simp; done) | (simp [*]; done), by repeat (first | exact Drawn0.refl _ | apply Drawn0.step)⟩

/-! ### impl_BoundsOk: function 65 -/
def impl_BoundsOk.f (a0 : Int) (a1 : Int) : Option (Bool) := (impl_in.f a0 0 a1).bind fun bN => (if bN = true then (some (decide (a1 ≤ 4096))) else (some false))
set_option maxHeartbeats 8000000 in
set_option maxRecDepth 100000 in
theorem impl_BoundsOk.calls (a0 : Int) (a1 : Int) (r : Bool) (w : World) (h : impl_BoundsOk.f a0 a1 = some r) :
  Calls Try.prog 65 #[.int .i64 a0, .int .i64 a1] w fun e w' => e = .returned (.bool r) ∧ Drawn0 w w' := by
 have H : ((impl_in.f a0 0 a1).bind fun bN => (if bN = true then (some (decide (a1 ≤ 4096))) else (some false))) = some r := h; clear h; replace H := Option.bind_eq_some_iff.mp H; obtain ⟨bN, A30, H⟩ := H; replace H : (if bN = true then (some (decide (a1 ≤ 4096))) else (some false)) = some r := H; have A3 := Aside0.mk A30; clear A30
 by_cases c4 : bN = true
 ·subst c4
  have H1 : (some (decide (a1 ≤ 4096))) = some r := by rw [if_pos rfl] at H; exact H
  clear H; have H := H1; clear H1; obtain rfl := Option.some.inj H
  go_enter Try.func65, Try.ntmps65
  go_wp2_with (first | ((with_reducible refine gate_callee (f := 77) rfl ?_); refine goesM (some 7) rfl rfl Try.func77 (by kernel_rfl) rfl #[.int .i64 a0, .int .i64 0, .int .i64 a1] rfl ?_; (with_reducible refine (impl_in.calls a0 0 a1 true _ A3.out).mono ?_); rintro e w' ⟨rfl, ⟨nd, rfl⟩⟩; refine ⟨_, rfl, ?_⟩))
  go_ret
  exact ⟨by first | rfl | (simp; done) | (simp [*]; done), by repeat (first | exact Drawn0.refl _ | apply Drawn0.step)⟩
 ·replace c4 := Bool.eq_false_iff.mpr c4
  subst c4; have H1 : (some false) = some r := by rw [if_neg (show ¬ (false = true) by decide)] at H; exact H
  clear H; have H := H1; clear H1; obtain rfl := Option.some.inj H
  go_enter Try.func65, Try.ntmps65
  go_wp2_with (first | ((with_reducible refine gate_callee (f := 77) rfl ?_); refine goesM (some 7) rfl rfl Try.func77 (by kernel_rfl) rfl #[.int .i64 a0, .int .i64 0, .int .i64 a1] rfl ?_; (with_reducible refine (impl_in.calls a0 0 a1 false _ A3.out).mono ?_); rintro e w' ⟨rfl, ⟨nd, rfl⟩⟩; refine ⟨_, rfl, ?_⟩))
  go_ret
  exact ⟨by first | rfl | (simp; done) | (simp [*]; done), by repeat (first | exact Drawn0.refl _ | apply Drawn0.step)⟩

/-! ### impl_Pack: function 91 -/
def impl_Pack.l0 : Nat → Int → Int → Int → Option (Int × Int × Int × Bool)
 | 0, _, _, _ => none
 | k + 1, x0, x1, bk => if bk < 7 then (if 0 ≤ bk then (if (shl .i64 1 bk) = 0 then (none) else (if (wrap64 (Int.tdiv x0 (shl .i64 1 bk))) ≤ 63 then (if (wrap64 (Int.tdiv (wrap64 ((wrap64 ((wrap64 (x1 - (wrap64 ((wrap64 (Int.tdiv x0 (shl .i64 1 bk))) * (shl .i64 1 bk))))) + (shl .i64 1 bk))) - 1)) (shl .i64 1 bk))) ≤ 63 then (some (bk, wrap64 (Int.tdiv x0 (shl .i64 1 bk)), wrap64 (Int.tdiv (wrap64 ((wrap64 ((wrap64 (x1 - (wrap64 ((wrap64 (Int.tdiv x0 (shl .i64 1 bk))) * (shl .i64 1 bk))))) + (shl .i64 1 bk))) - 1)) (shl .i64 1 bk)), true)) else (impl_Pack.l0 k x0 x1 (wrap64 (bk + 1)))) else (impl_Pack.l0 k x0 x1 (wrap64 (bk + 1))))) else (none)) else (some (0, 0, 0, false))
def impl_Pack.f (k : Nat) (a0 : Int) (a1 : Int) : Option (Int × Int × Int × Bool) := (impl_BoundsOk.f a0 a1).bind fun bO => (if bO = true then (impl_Pack.l0 k a0 a1 0) else (some (0, 0, 0, false)))
theorem impl_Pack.mono_l : ∀ k, (∀ y0 y1 y2, LeO (impl_Pack.l0 k y0 y1 y2) (impl_Pack.l0 (k + 1) y0 y1 y2))
 | 0 => fun _ _ _ r h => by simp [impl_Pack.l0] at h
 | k + 1 => by
  have ih0 := impl_Pack.mono_l k
  ·intro y0 y1 y2
   unfold impl_Pack.l0
   repeat' first
   | (with_reducible exact ih0 _ _ _)
   | (with_reducible exact LeO.refl _)
   | (with_reducible exact LeO.none _)
   | (with_reducible refine LeO.ite ?_ ?_)
   | (with_reducible refine LeO.bind ?_ (fun _ => ?_))
   | exact ih0 _ _ _
   | exact LeO.none _
   | refine LeO.ite ?_ ?_
   | refine LeO.bind ?_ (fun _ => ?_)
theorem impl_Pack.mono : ∀ a0 a1 k, LeO (impl_Pack.f k a0 a1) (impl_Pack.f (k + 1) a0 a1) := by
 intro a0 a1 k; have ih0 := impl_Pack.mono_l k
 unfold impl_Pack.f
 repeat' first
   | (with_reducible exact ih0 _ _ _)
   | (with_reducible exact LeO.refl _)
   | (with_reducible exact LeO.none _)
   | (with_reducible refine LeO.ite ?_ ?_)
   | (with_reducible refine LeO.bind ?_ (fun _ => ?_))
   | exact ih0 _ _ _
   | exact LeO.none _
   | refine LeO.ite ?_ ?_
   | refine LeO.bind ?_ (fun _ => ?_)
set_option maxHeartbeats 8000000 in
set_option maxRecDepth 100000 in
theorem impl_Pack.calls (k : Nat) (a0 : Int) (a1 : Int) (r1 : Int) (r2 : Int) (r3 : Int) (r4 : Bool) (w : World) (h : impl_Pack.f k a0 a1 = some (r1, r2, r3, r4)) :
  Calls Try.prog 91 #[.int .i64 a0, .int .i64 a1] w fun e w' => e = .returned (.tuple #[.agg #[.int .i64 r1, .int .i64 r2, .int .i64 r3], .bool r4]) ∧ Below w.heap.size w w' := by
 have hu84 := Try.underlying84; have HB := Aside0.mk (Below.refl w.heap.size w); have H : ((impl_BoundsOk.f a0 a1).bind fun bO => (if bO = true then (impl_Pack.l0 k a0 a1 0) else (some (0, 0, 0, false)))) = some (r1, r2, r3, r4) := h; clear h; replace H := Option.bind_eq_some_iff.mp H; obtain ⟨bO, A30, H⟩ := H; replace H : (if bO = true then (impl_Pack.l0 k a0 a1 0) else (some (0, 0, 0, false))) = some (r1, r2, r3, r4) := H; have A3 := Aside0.mk A30; clear A30
 by_cases c4 : bO = true
 ·subst c4
  have H1 : (impl_Pack.l0 k a0 a1 0) = some (r1, r2, r3, r4) := by rw [if_pos rfl] at H; exact H
  clear H; have H := H1; clear H1; have H' := Aside0.mk H; clear H
  go_enter Try.func91, Try.ntmps91
  go_wp2_with (first | ((with_reducible refine gate_dst (N := 4) rfl ?_); refine bxe 4 #[.int .i64 0, .int .i64 0, .int .i64 0] 84 ?_; intro bP hg w5 hbox hb; have bl := hbox; have eD := nge HB hg; have eE := nge HB hg; replace HB := nbs HB hb; clear hb hbox hg) | ((with_reducible refine gate_callee (f := 65) rfl ?_); refine goesM (some 12) rfl rfl Try.func65 (by kernel_rfl) rfl #[.int .i64 a0, .int .i64 a1] rfl ?_; (with_reducible refine (impl_BoundsOk.calls a0 a1 true _ A3.out).mono ?_); rintro e w' ⟨rfl, ⟨nd, rfl⟩⟩; refine ⟨_, rfl, ?_⟩))
  go_loopg [15] k (fun kq eF w' => ∃ (bd : Int) (dc : Int) (dd : Int) (de : Int), eF = .int .i64 bd ∧ Aside0 (impl_Pack.l0 kq a0 a1 bd = some (r1, r2, r3, r4)) ∧ Aside0 (kq ≤ k) ∧ Aside0 (w'.heap[bP]? = some (.cells #[.int .i64 dc, .int .i64 dd, .int .i64 de] 84 (0, 0))) ∧ Aside0 (Below w.heap.size w w'))
  case atStart => exact ⟨(0), (0), (0), (0), (by first | rfl | (simp; done) | (simp [*]; done)), H', ⟨Nat.le_refl _⟩, ⟨nb bl⟩, ⟨nbe HB⟩⟩
  case round =>
   clear H'; try clear p2
   try clear c4
   obtain ⟨bd, dc, dd, de, rfl, HA, df, bl, HB⟩ := hrel
   cases gk with
   | zero => exact absurd HA.out (by simp [impl_Pack.l0])
   | succ k1 =>
    have H := HA.out; clear HA; simp only [impl_Pack.l0] at H
    by_cases c6 : bd < 7
    ·rw [if_pos c6] at H
     have c6b0 : decide (bd < 7) = true := decide_eq_true c6; clear c6
     by_cases c7 : 0 ≤ bd
     ·rw [if_pos c7] at H
      have c7b0 := eq_true c7; have c7b1 : decide (0 ≤ bd) = true := decide_eq_true c7; clear c7; obtain ⟨ba, b3⟩ : ∃ j_ : Int, (shl .i64 1 bd) = j_ := ⟨_, rfl⟩; replace H : (if (ba) = 0 then (none) else (if (wrap64 (Int.tdiv a0 (ba))) ≤ 63 then (if (wrap64 (Int.tdiv (wrap64 ((wrap64 ((wrap64 (a1 - (wrap64 ((wrap64 (Int.tdiv a0 (ba))) * (ba))))) + (ba))) - 1)) (ba))) ≤ 63 then (some (bd, wrap64 (Int.tdiv a0 (ba)), wrap64 (Int.tdiv (wrap64 ((wrap64 ((wrap64 (a1 - (wrap64 ((wrap64 (Int.tdiv a0 (ba))) * (ba))))) + (ba))) - 1)) (ba)), true)) else (impl_Pack.l0 k1 a0 a1 (wrap64 (bd + 1)))) else (impl_Pack.l0 k1 a0 a1 (wrap64 (bd + 1))))) = some (r1, r2, r3, r4) := by first | (rw [b3] at H; exact H) | (simp only [b3] at H ⊢; exact H)
      have d3 : (IntKind.i64.wrap (1 * 2 ^ min bd.toNat 64)) = ba := b3; have d4 : bd ≤ 64 → (IntKind.i64.wrap (1 * 2 ^ bd.toNat)) = ba := shl_small b3; have gj : (IntKind.i64.wrap (2 ^ min bd.toNat 64)) = ba := by have h_ := d3; rw [Int.one_mul] at h_; exact h_
      have gl : bd ≤ 64 → (IntKind.i64.wrap (2 ^ bd.toNat)) = ba := fun hle_ => by have h_ := d4 hle_; rw [Int.one_mul] at h_; exact h_
      have gm : (wrap64 (1 * 2 ^ min bd.toNat 64)) = ba := (i64_w _).symm.trans d3; have gn : bd ≤ 64 → (wrap64 (1 * 2 ^ bd.toNat)) = ba := fun h_ => (i64_w _).symm.trans (d4 h_)
      by_cases c9 : (ba) = 0
      ·rw [if_pos c9] at H
       exact absurd H (by simp)
      ·rw [if_neg c9] at H
       have c9b0 : ((ba) == 0) = false := beq_eq_false_iff_ne.mpr c9; have c9b1 : ((ba) != 0) = true := bne_iff_ne.mpr c9
       by_cases c10 : (wrap64 (Int.tdiv a0 (ba))) ≤ 63
       ·rw [if_pos c10] at H
        have c10b0 : decide ((wrap64 (Int.tdiv a0 (ba))) ≤ 63) = true := decide_eq_true c10; clear c10
        by_cases c11 : (wrap64 (Int.tdiv (wrap64 ((wrap64 ((wrap64 (a1 - (wrap64 ((wrap64 (Int.tdiv a0 (ba))) * (ba))))) + (ba))) - 1)) (ba))) ≤ 63
        ·rw [if_pos c11] at H
         have c11b0 : decide ((wrap64 (Int.tdiv (wrap64 ((wrap64 ((wrap64 (a1 - (wrap64 ((wrap64 (Int.tdiv a0 (ba))) * (ba))))) + (ba))) - 1)) (ba))) ≤ 63) = true := decide_eq_true c11; clear c11; simp only [Option.some.injEq, Prod.mk.injEq] at H; obtain ⟨rfl, rfl, rfl, rfl⟩ := H; obtain ⟨d5, d6, d7⟩ := c3e bl; obtain ⟨d8, d9, ea⟩ := z3_ bl; go_wp2; refine bodyPost_ret (results_ct rfl _ _ bP 84 #[.int .i64 bd, .int .i64 (wrap64 (Int.tdiv a0 (ba))), .int .i64 (wrap64 (Int.tdiv (wrap64 ((wrap64 ((wrap64 (a1 - (wrap64 ((wrap64 (Int.tdiv a0 (ba))) * (ba))))) + (ba))) - 1)) (ba)))] (0, 0) _ rfl (q3 bl) Try.underlying84 rfl (by kernel_rfl)) rfl ?_; exact ⟨by first | rfl | (simp [errW_none, errW_some] <;> rfl) | (simp only [← b3]; first | rfl | (simp [errW_none, errW_some] <;> rfl)) | (simp [*, errW_none, errW_some] <;> rfl), nbe HB⟩
        ·rw [if_neg c11] at H
         have c11b0 : decide ((wrap64 (Int.tdiv (wrap64 ((wrap64 ((wrap64 (a1 - (wrap64 ((wrap64 (Int.tdiv a0 (ba))) * (ba))))) + (ba))) - 1)) (ba))) ≤ 63) = false := decide_eq_false c11; clear c11; have H' := Aside0.mk H; clear H; go_wp2
         go_roundg k1
         case measure => have := df.out; omega
         case rel => exact ⟨(wrap64 (bd + 1)), (dc), (dd), (de), (by first | rfl | (simp; done) | (simp [*]; done)), H', ⟨by have := df.out; omega⟩, ⟨nb bl⟩, ⟨nbe HB⟩⟩
       ·rw [if_neg c10] at H
        have c10b0 : decide ((wrap64 (Int.tdiv a0 (ba))) ≤ 63) = false := decide_eq_false c10; clear c10; have H' := Aside0.mk H; clear H; go_wp2
        go_roundg k1
        case measure => have := df.out; omega
        case rel => exact ⟨(wrap64 (bd + 1)), (dc), (dd), (de), (by first | rfl | (simp; done) | (simp [*]; done)), H', ⟨by have := df.out; omega⟩, ⟨nb bl⟩, ⟨nbe HB⟩⟩
     ·rw [if_neg c7] at H
      exact absurd H (by simp)
    ·rw [if_neg c6] at H
     have c6b0 : decide (bd < 7) = false := decide_eq_false c6; clear c6; simp only [Option.some.injEq, Prod.mk.injEq] at H; obtain ⟨rfl, rfl, rfl, rfl⟩ := H; obtain ⟨gp, gq, gr⟩ := c3e bl; obtain ⟨gs, gt, gu⟩ := z3_ bl; go_wp2; refine bodyPost_ret (results_ct rfl _ _ bP 84 #[.int .i64 0, .int .i64 0, .int .i64 0] (0, 0) _ rfl (q3 bl) Try.underlying84 rfl (by kernel_rfl)) rfl ?_; exact ⟨er_, nbe HB⟩
 ·replace c4 := Bool.eq_false_iff.mpr c4
  subst c4; have H1 : (some (0, 0, 0, false)) = some (r1, r2, r3, r4) := by rw [if_neg (show ¬ (false = true) by decide)] at H; exact H
  clear H; have H := H1; clear H1; simp only [Option.some.injEq, Prod.mk.injEq] at H; obtain ⟨rfl, rfl, rfl, rfl⟩ := H
  go_enter Try.func91, Try.ntmps91
  go_wp2_with (first | ((with_reducible refine gate_dst (N := 4) rfl ?_); refine bxe 4 #[.int .i64 0, .int .i64 0, .int .i64 0] 84 ?_; intro bP hg bQ hbox hb; have bl := hbox; have eD := nge HB hg; have eE := nge HB hg; replace HB := nbs HB hb; clear hb hbox hg) | ((with_reducible refine gate_callee (f := 65) rfl ?_); refine goesM (some 12) rfl rfl Try.func65 (by kernel_rfl) rfl #[.int .i64 a0, .int .i64 a1] rfl ?_; (with_reducible refine (impl_BoundsOk.calls a0 a1 false _ A3.out).mono ?_); rintro e w' ⟨rfl, ⟨nd, rfl⟩⟩; refine ⟨_, rfl, ?_⟩; (try (rw [drewN_self bQ]; generalize hq_ : World.drewN bQ _ = bQ; replace bl : Aside0 (bQ.heap[bP]? = some (.cells #[.int .i64 0, .int .i64 0, .int .i64 0] 84 (0, 0))) := ⟨by rw [← hq_]; exact (nb bl)⟩; replace HB : Aside0 (Below w.heap.size w bQ) := ⟨by rw [← hq_]; exact (nbe HB)⟩; clear hq_)); obtain ⟨gv, gw, gx⟩ := c3e bl; obtain ⟨gy, gz, gA⟩ := z3_ bl))
  refine bodyPost_ret (results_ct rfl _ _ bP 84 #[.int .i64 0, .int .i64 0, .int .i64 0] (0, 0) _ rfl (q3 bl) Try.underlying84 rfl (by kernel_rfl)) rfl ?_; exact ⟨er_, nbe HB⟩

/-! ### impl_Unpack: function 92 -/
def impl_Unpack.f (a0_0 : Int) (a0_1 : Int) (a0_2 : Int) : Option (Int × Int × Bool) := (impl_in.f a0_0 0 6).bind fun bR => (if bR = true then ((impl_in.f a0_1 0 63).bind fun bw => (if bw = true then ((impl_in.f a0_2 0 63).bind fun bn => (if bn = true then (if 0 ≤ a0_0 then (some (shl .i64 a0_1 a0_0, mn 4096 (shl .i64 (wrap64 (a0_1 + a0_2)) a0_0), true)) else (none)) else (some (0, 0, false)))) else (some (0, 0, false)))) else (some (0, 0, false)))
set_option maxHeartbeats 8000000 in
set_option maxRecDepth 100000 in
theorem impl_Unpack.calls (a0_0 : Int) (a0_1 : Int) (a0_2 : Int) (r1 : Int) (r2 : Int) (r3 : Bool) (w : World) (h : impl_Unpack.f a0_0 a0_1 a0_2 = some (r1, r2, r3)) :
  Calls Try.prog 92 #[.agg #[.int .i64 a0_0, .int .i64 a0_1, .int .i64 a0_2]] w fun e w' => e = .returned (.tuple #[.int .i64 r1, .int .i64 r2, .bool r3]) ∧ Below w.heap.size w w' := by
 have hu84 := Try.underlying84; have HB := Aside0.mk (Below.refl w.heap.size w); have H : ((impl_in.f a0_0 0 6).bind fun bR => (if bR = true then ((impl_in.f a0_1 0 63).bind fun bw => (if bw = true then ((impl_in.f a0_2 0 63).bind fun bn => (if bn = true then (if 0 ≤ a0_0 then (some (shl .i64 a0_1 a0_0, mn 4096 (shl .i64 (wrap64 (a0_1 + a0_2)) a0_0), true)) else (none)) else (some (0, 0, false)))) else (some (0, 0, false)))) else (some (0, 0, false)))) = some (r1, r2, r3) := h; clear h; replace H := Option.bind_eq_some_iff.mp H; obtain ⟨bR, A20, H⟩ := H; replace H : (if bR = true then ((impl_in.f a0_1 0 63).bind fun bw => (if bw = true then ((impl_in.f a0_2 0 63).bind fun bn => (if bn = true then (if 0 ≤ a0_0 then (some (shl .i64 a0_1 a0_0, mn 4096 (shl .i64 (wrap64 (a0_1 + a0_2)) a0_0), true)) else (none)) else (some (0, 0, false)))) else (some (0, 0, false)))) else (some (0, 0, false))) = some (r1, r2, r3) := H; have A2 := Aside0.mk A20; clear A20
 by_cases c3 : bR = true
 ·subst c3
  have H1 : ((impl_in.f a0_1 0 63).bind fun bw => (if bw = true then ((impl_in.f a0_2 0 63).bind fun bn => (if bn = true then (if 0 ≤ a0_0 then (some (shl .i64 a0_1 a0_0, mn 4096 (shl .i64 (wrap64 (a0_1 + a0_2)) a0_0), true)) else (none)) else (some (0, 0, false)))) else (some (0, 0, false)))) = some (r1, r2, r3) := by rw [if_pos rfl] at H; exact H
  clear H; have H := H1; clear H1; replace H := Option.bind_eq_some_iff.mp H; obtain ⟨bw, A40, H⟩ := H; replace H : (if bw = true then ((impl_in.f a0_2 0 63).bind fun bn => (if bn = true then (if 0 ≤ a0_0 then (some (shl .i64 a0_1 a0_0, mn 4096 (shl .i64 (wrap64 (a0_1 + a0_2)) a0_0), true)) else (none)) else (some (0, 0, false)))) else (some (0, 0, false))) = some (r1, r2, r3) := H; have A4 := Aside0.mk A40; clear A40
  by_cases c5 : bw = true
  ·subst c5
   have H1 : ((impl_in.f a0_2 0 63).bind fun bn => (if bn = true then (if 0 ≤ a0_0 then (some (shl .i64 a0_1 a0_0, mn 4096 (shl .i64 (wrap64 (a0_1 + a0_2)) a0_0), true)) else (none)) else (some (0, 0, false)))) = some (r1, r2, r3) := by rw [if_pos rfl] at H; exact H
   clear H; have H := H1; clear H1; replace H := Option.bind_eq_some_iff.mp H; obtain ⟨bn, A60, H⟩ := H; replace H : (if bn = true then (if 0 ≤ a0_0 then (some (shl .i64 a0_1 a0_0, mn 4096 (shl .i64 (wrap64 (a0_1 + a0_2)) a0_0), true)) else (none)) else (some (0, 0, false))) = some (r1, r2, r3) := H; have A6 := Aside0.mk A60; clear A60
   by_cases c7 : bn = true
   ·subst c7
    have H1 : (if 0 ≤ a0_0 then (some (shl .i64 a0_1 a0_0, mn 4096 (shl .i64 (wrap64 (a0_1 + a0_2)) a0_0), true)) else (none)) = some (r1, r2, r3) := by rw [if_pos rfl] at H; exact H
    clear H; have H := H1; clear H1
    by_cases c8 : 0 ≤ a0_0
    ·rw [if_pos c8] at H
     have c8b0 := eq_true c8; have c8b1 : decide (0 ≤ a0_0) = true := decide_eq_true c8; clear c8; obtain ⟨bG, bA⟩ : ∃ j_ : Int, (shl .i64 a0_1 a0_0) = j_ := ⟨_, rfl⟩; replace H : (some (bG, mn 4096 (shl .i64 (wrap64 (a0_1 + a0_2)) a0_0), true)) = some (r1, r2, r3) := by first | (rw [bA] at H; exact H) | (simp only [bA] at H ⊢; exact H)
     (try rw [bA] at A2); (try rw [bA] at A4); (try rw [bA] at A6); have eG : (IntKind.i64.wrap (a0_1 * 2 ^ min a0_0.toNat 64)) = bG := bA; have eH : a0_0 ≤ 64 → (IntKind.i64.wrap (a0_1 * 2 ^ a0_0.toNat)) = bG := shl_small bA; have gB : (wrap64 (a0_1 * 2 ^ min a0_0.toNat 64)) = bG := (i64_w _).symm.trans eG; have gC : a0_0 ≤ 64 → (wrap64 (a0_1 * 2 ^ a0_0.toNat)) = bG := fun h_ => (i64_w _).symm.trans (eH h_)
     have c10b0 := eq_true (of_decide_eq_true (by first | (with_reducible assumption) | assumption) : 0 ≤ a0_0); obtain ⟨bB, bC⟩ : ∃ j_ : Int, (shl .i64 (wrap64 (a0_1 + a0_2)) a0_0) = j_ := ⟨_, rfl⟩; replace H : (some (bG, mn 4096 (bB), true)) = some (r1, r2, r3) := by first | (rw [bC] at H; exact H) | (simp only [bC] at H ⊢; exact H)
     (try rw [bC] at A2); (try rw [bC] at A4); (try rw [bC] at A6); have eI : (IntKind.i64.wrap ((wrap64 (a0_1 + a0_2)) * 2 ^ min a0_0.toNat 64)) = bB := bC; have eJ : a0_0 ≤ 64 → (IntKind.i64.wrap ((wrap64 (a0_1 + a0_2)) * 2 ^ a0_0.toNat)) = bB := shl_small bC; have gD : (wrap64 ((wrap64 (a0_1 + a0_2)) * 2 ^ min a0_0.toNat 64)) = bB := (i64_w _).symm.trans eI; have gE : a0_0 ≤ 64 → (wrap64 ((wrap64 (a0_1 + a0_2)) * 2 ^ a0_0.toNat)) = bB := fun h_ => (i64_w _).symm.trans (eJ h_)
     obtain ⟨eb, bH⟩ : ∃ j_ : Int, (mn 4096 (bB)) = j_ := ⟨_, rfl⟩; replace H : (some (bG, eb, true)) = some (r1, r2, r3) := by first | (rw [bH] at H; exact H) | (simp only [bH] at H ⊢; exact H)
     (try rw [bH] at A2); (try rw [bH] at A4); (try rw [bH] at A6); have gF : (if (bB) < 4096 then (bB) else 4096) = eb := bH; simp only [Option.some.injEq, Prod.mk.injEq] at H; obtain ⟨rfl, rfl, rfl⟩ := H
     go_enter Try.func92, Try.ntmps92
     go_wp2_with (first | ((with_reducible refine gate_dst (N := 1) rfl ?_); refine bxe 1 #[.int .i64 a0_0, .int .i64 a0_1, .int .i64 a0_2] 84 ?_; intro bs hg bI hbox hb; have bb := hbox; have bt := nge HB hg; have bu := nge HB hg; replace HB := nbs HB hb; clear hb hbox hg; obtain ⟨bS, bT, bU⟩ := c3e bb; obtain ⟨bV, bW, bX⟩ := z3_ bb) | (go_at_call 77; (with_reducible refine (impl_in.calls a0_0 0 6 true _ A2.out).mono ?_); rintro e w' ⟨rfl, ⟨nd, rfl⟩⟩; (try first | exact ⟨rfl, _, World.drewN_drewN _ _ _⟩ | exact ⟨rfl, _, Eq.trans (World.drewN_drewN _ _ _) (congrArg (World.drewN _) (Nat.add_assoc _ _ _))⟩)) | (go_at_call 77; (with_reducible refine (impl_in.calls a0_1 0 63 true _ A4.out).mono ?_); rintro e w' ⟨rfl, ⟨nd, rfl⟩⟩; (try first | exact ⟨rfl, _, World.drewN_drewN _ _ _⟩ | exact ⟨rfl, _, Eq.trans (World.drewN_drewN _ _ _) (congrArg (World.drewN _) (Nat.add_assoc _ _ _))⟩)) | (go_at_call 77; (with_reducible refine (impl_in.calls a0_2 0 63 true _ A6.out).mono ?_); rintro e w' ⟨rfl, ⟨nd, rfl⟩⟩; (try first | exact ⟨rfl, _, World.drewN_drewN _ _ _⟩ | exact ⟨rfl, _, Eq.trans (World.drewN_drewN _ _ _) (congrArg (World.drewN _) (Nat.add_assoc _ _ _))⟩)))
     repeat (go_quiet (first | ((with_reducible refine gate_dst (N := 1) rfl ?_); refine bxe 1 #[.int .i64 a0_0, .int .i64 a0_1, .int .i64 a0_2] 84 ?_; intro bs hg bI hbox hb; have bb := hbox; have bt := nge HB hg; have bu := nge HB hg; replace HB := nbs HB hb; clear hb hbox hg; obtain ⟨bS, bT, bU⟩ := c3e bb; obtain ⟨bV, bW, bX⟩ := z3_ bb) | (go_at_call 77; (with_reducible refine (impl_in.calls a0_0 0 6 true _ A2.out).mono ?_); rintro e w' ⟨rfl, ⟨nd, rfl⟩⟩; (try first | exact ⟨rfl, _, World.drewN_drewN _ _ _⟩ | exact ⟨rfl, _, Eq.trans (World.drewN_drewN _ _ _) (congrArg (World.drewN _) (Nat.add_assoc _ _ _))⟩)) | (go_at_call 77; (with_reducible refine (impl_in.calls a0_1 0 63 true _ A4.out).mono ?_); rintro e w' ⟨rfl, ⟨nd, rfl⟩⟩; (try first | exact ⟨rfl, _, World.drewN_drewN _ _ _⟩ | exact ⟨rfl, _, Eq.trans (World.drewN_drewN _ _ _) (congrArg (World.drewN _) (Nat.add_assoc _ _ _))⟩)) | (go_at_call 77; (with_reducible refine (impl_in.calls a0_2 0 63 true _ A6.out).mono ?_); rintro e w' ⟨rfl, ⟨nd, rfl⟩⟩; (try first | exact ⟨rfl, _, World.drewN_drewN _ _ _⟩ | exact ⟨rfl, _, Eq.trans (World.drewN_drewN _ _ _) (congrArg (World.drewN _) (Nat.add_assoc _ _ _))⟩))); try go_wp2_with (first | ((with_reducible refine gate_dst (N := 1) rfl ?_); refine bxe 1 #[.int .i64 a0_0, .int .i64 a0_1, .int .i64 a0_2] 84 ?_; intro bs hg bI hbox hb; have bb := hbox; have bt := nge HB hg; have bu := nge HB hg; replace HB := nbs HB hb; clear hb hbox hg; obtain ⟨bS, bT, bU⟩ := c3e bb; obtain ⟨bV, bW, bX⟩ := z3_ bb) | (go_at_call 77; (with_reducible refine (impl_in.calls a0_0 0 6 true _ A2.out).mono ?_); rintro e w' ⟨rfl, ⟨nd, rfl⟩⟩; (try first | exact ⟨rfl, _, World.drewN_drewN _ _ _⟩ | exact ⟨rfl, _, Eq.trans (World.drewN_drewN _ _ _) (congrArg (World.drewN _) (Nat.add_assoc _ _ _))⟩)) | (go_at_call 77; (with_reducible refine (impl_in.calls a0_1 0 63 true _ A4.out).mono ?_); rintro e w' ⟨rfl, ⟨nd, rfl⟩⟩; (try first | exact ⟨rfl, _, World.drewN_drewN _ _ _⟩ | exact ⟨rfl, _, Eq.trans (World.drewN_drewN _ _ _) (congrArg (World.drewN _) (Nat.add_assoc _ _ _))⟩)) | (go_at_call 77; (with_reducible refine (impl_in.calls a0_2 0 63 true _ A6.out).mono ?_); rintro e w' ⟨rfl, ⟨nd, rfl⟩⟩; (try first | exact ⟨rfl, _, World.drewN_drewN _ _ _⟩ | exact ⟨rfl, _, Eq.trans (World.drewN_drewN _ _ _) (congrArg (World.drewN _) (Nat.add_assoc _ _ _))⟩))))
     go_ret3
     exact ⟨by first | rfl | (simp [errW_none, errW_some] <;> rfl) | (simp only [← bA, ← bC, ← bH]; first | rfl | (simp [errW_none, errW_some] <;> rfl)) | (simp [*, errW_none, errW_some] <;> rfl), nbe HB⟩
    ·rw [if_neg c8] at H
     exact absurd H (by simp)
   ·replace c7 := Bool.eq_false_iff.mpr c7
    subst c7; have H1 : (some (0, 0, false)) = some (r1, r2, r3) := by rw [if_neg (show ¬ (false = true) by decide)] at H; exact H
    clear H; have H := H1; clear H1; simp only [Option.some.injEq, Prod.mk.injEq] at H; obtain ⟨rfl, rfl, rfl⟩ := H
    go_enter Try.func92, Try.ntmps92
    go_wp2_with (first | ((with_reducible refine gate_dst (N := 1) rfl ?_); refine bxe 1 #[.int .i64 a0_0, .int .i64 a0_1, .int .i64 a0_2] 84 ?_; intro bs hg b4 hbox hb; have bb := hbox; have bt := nge HB hg; have bu := nge HB hg; replace HB := nbs HB hb; clear hb hbox hg; obtain ⟨b5, b6, b7⟩ := c3e bb; obtain ⟨b8, b9, da⟩ := z3_ bb) | (go_at_call 77; (with_reducible refine (impl_in.calls a0_0 0 6 true _ A2.out).mono ?_); rintro e w' ⟨rfl, ⟨nd, rfl⟩⟩; (try first | exact ⟨rfl, _, World.drewN_drewN _ _ _⟩ | exact ⟨rfl, _, Eq.trans (World.drewN_drewN _ _ _) (congrArg (World.drewN _) (Nat.add_assoc _ _ _))⟩)) | (go_at_call 77; (with_reducible refine (impl_in.calls a0_1 0 63 true _ A4.out).mono ?_); rintro e w' ⟨rfl, ⟨nd, rfl⟩⟩; (try first | exact ⟨rfl, _, World.drewN_drewN _ _ _⟩ | exact ⟨rfl, _, Eq.trans (World.drewN_drewN _ _ _) (congrArg (World.drewN _) (Nat.add_assoc _ _ _))⟩)) | (go_at_call 77; (with_reducible refine (impl_in.calls a0_2 0 63 false _ A6.out).mono ?_); rintro e w' ⟨rfl, ⟨nd, rfl⟩⟩; (try first | exact ⟨rfl, _, World.drewN_drewN _ _ _⟩ | exact ⟨rfl, _, Eq.trans (World.drewN_drewN _ _ _) (congrArg (World.drewN _) (Nat.add_assoc _ _ _))⟩)))
    repeat (go_quiet (first | ((with_reducible refine gate_dst (N := 1) rfl ?_); refine bxe 1 #[.int .i64 a0_0, .int .i64 a0_1, .int .i64 a0_2] 84 ?_; intro bs hg b4 hbox hb; have bb := hbox; have bt := nge HB hg; have bu := nge HB hg; replace HB := nbs HB hb; clear hb hbox hg; obtain ⟨b5, b6, b7⟩ := c3e bb; obtain ⟨b8, b9, da⟩ := z3_ bb) | (go_at_call 77; (with_reducible refine (impl_in.calls a0_0 0 6 true _ A2.out).mono ?_); rintro e w' ⟨rfl, ⟨nd, rfl⟩⟩; (try first | exact ⟨rfl, _, World.drewN_drewN _ _ _⟩ | exact ⟨rfl, _, Eq.trans (World.drewN_drewN _ _ _) (congrArg (World.drewN _) (Nat.add_assoc _ _ _))⟩)) | (go_at_call 77; (with_reducible refine (impl_in.calls a0_1 0 63 true _ A4.out).mono ?_); rintro e w' ⟨rfl, ⟨nd, rfl⟩⟩; (try first | exact ⟨rfl, _, World.drewN_drewN _ _ _⟩ | exact ⟨rfl, _, Eq.trans (World.drewN_drewN _ _ _) (congrArg (World.drewN _) (Nat.add_assoc _ _ _))⟩)) | (go_at_call 77; (with_reducible refine (impl_in.calls a0_2 0 63 false _ A6.out).mono ?_); rintro e w' ⟨rfl, ⟨nd, rfl⟩⟩; (try first | exact ⟨rfl, _, World.drewN_drewN _ _ _⟩ | exact ⟨rfl, _, Eq.trans (World.drewN_drewN _ _ _) (congrArg (World.drewN _) (Nat.add_assoc _ _ _))⟩))); try go_wp2_with (first | ((with_reducible refine gate_dst (N := 1) rfl ?_); refine bxe 1 #[.int .i64 a0_0, .int .i64 a0_1, .int .i64 a0_2] 84 ?_; intro bs hg b4 hbox hb; have bb := hbox; have bt := nge HB hg; have bu := nge HB hg; replace HB := nbs HB hb; clear hb hbox hg; obtain ⟨b5, b6, b7⟩ := c3e bb; obtain ⟨b8, b9, da⟩ := z3_ bb) | (go_at_call 77; (with_reducible refine (impl_in.calls a0_0 0 6 true _ A2.out).mono ?_); rintro e w' ⟨rfl, ⟨nd, rfl⟩⟩; (try first | exact ⟨rfl, _, World.drewN_drewN _ _ _⟩ | exact ⟨rfl, _, Eq.trans (World.drewN_drewN _ _ _) (congrArg (World.drewN _) (Nat.add_assoc _ _ _))⟩)) | (go_at_call 77; (with_reducible refine (impl_in.calls a0_1 0 63 true _ A4.out).mono ?_); rintro e w' ⟨rfl, ⟨nd, rfl⟩⟩; (try first | exact ⟨rfl, _, World.drewN_drewN _ _ _⟩ | exact ⟨rfl, _, Eq.trans (World.drewN_drewN _ _ _) (congrArg (World.drewN _) (Nat.add_assoc _ _ _))⟩)) | (go_at_call 77; (with_reducible refine (impl_in.calls a0_2 0 63 false _ A6.out).mono ?_); rintro e w' ⟨rfl, ⟨nd, rfl⟩⟩; (try first | exact ⟨rfl, _, World.drewN_drewN _ _ _⟩ | exact ⟨rfl, _, Eq.trans (World.drewN_drewN _ _ _) (congrArg (World.drewN _) (Nat.add_assoc _ _ _))⟩))))
    go_ret3
    exact ⟨er_, nbe HB⟩
  ·replace c5 := Bool.eq_false_iff.mpr c5
   subst c5; have H1 : (some (0, 0, false)) = some (r1, r2, r3) := by rw [if_neg (show ¬ (false = true) by decide)] at H; exact H
   clear H; have H := H1; clear H1; simp only [Option.some.injEq, Prod.mk.injEq] at H; obtain ⟨rfl, rfl, rfl⟩ := H
   go_enter Try.func92, Try.ntmps92
   go_wp2_with (first | ((with_reducible refine gate_dst (N := 1) rfl ?_); refine bxe 1 #[.int .i64 a0_0, .int .i64 a0_1, .int .i64 a0_2] 84 ?_; intro bs hg dg hbox hb; have bb := hbox; have bt := nge HB hg; have bu := nge HB hg; replace HB := nbs HB hb; clear hb hbox hg; obtain ⟨dp, dq, dr⟩ := c3e bb; obtain ⟨ds, dt, du⟩ := z3_ bb) | (go_at_call 77; (with_reducible refine (impl_in.calls a0_0 0 6 true _ A2.out).mono ?_); rintro e w' ⟨rfl, ⟨nd, rfl⟩⟩; (try first | exact ⟨rfl, _, World.drewN_drewN _ _ _⟩ | exact ⟨rfl, _, Eq.trans (World.drewN_drewN _ _ _) (congrArg (World.drewN _) (Nat.add_assoc _ _ _))⟩)) | (go_at_call 77; (with_reducible refine (impl_in.calls a0_1 0 63 false _ A4.out).mono ?_); rintro e w' ⟨rfl, ⟨nd, rfl⟩⟩; (try first | exact ⟨rfl, _, World.drewN_drewN _ _ _⟩ | exact ⟨rfl, _, Eq.trans (World.drewN_drewN _ _ _) (congrArg (World.drewN _) (Nat.add_assoc _ _ _))⟩)))
   repeat (go_quiet (first | ((with_reducible refine gate_dst (N := 1) rfl ?_); refine bxe 1 #[.int .i64 a0_0, .int .i64 a0_1, .int .i64 a0_2] 84 ?_; intro bs hg dg hbox hb; have bb := hbox; have bt := nge HB hg; have bu := nge HB hg; replace HB := nbs HB hb; clear hb hbox hg; obtain ⟨dp, dq, dr⟩ := c3e bb; obtain ⟨ds, dt, du⟩ := z3_ bb) | (go_at_call 77; (with_reducible refine (impl_in.calls a0_0 0 6 true _ A2.out).mono ?_); rintro e w' ⟨rfl, ⟨nd, rfl⟩⟩; (try first | exact ⟨rfl, _, World.drewN_drewN _ _ _⟩ | exact ⟨rfl, _, Eq.trans (World.drewN_drewN _ _ _) (congrArg (World.drewN _) (Nat.add_assoc _ _ _))⟩)) | (go_at_call 77; (with_reducible refine (impl_in.calls a0_1 0 63 false _ A4.out).mono ?_); rintro e w' ⟨rfl, ⟨nd, rfl⟩⟩; (try first | exact ⟨rfl, _, World.drewN_drewN _ _ _⟩ | exact ⟨rfl, _, Eq.trans (World.drewN_drewN _ _ _) (congrArg (World.drewN _) (Nat.add_assoc _ _ _))⟩))); try go_wp2_with (first | ((with_reducible refine gate_dst (N := 1) rfl ?_); refine bxe 1 #[.int .i64 a0_0, .int .i64 a0_1, .int .i64 a0_2] 84 ?_; intro bs hg dg hbox hb; have bb := hbox; have bt := nge HB hg; have bu := nge HB hg; replace HB := nbs HB hb; clear hb hbox hg; obtain ⟨dp, dq, dr⟩ := c3e bb; obtain ⟨ds, dt, du⟩ := z3_ bb) | (go_at_call 77; (with_reducible refine (impl_in.calls a0_0 0 6 true _ A2.out).mono ?_); rintro e w' ⟨rfl, ⟨nd, rfl⟩⟩; (try first | exact ⟨rfl, _, World.drewN_drewN _ _ _⟩ | exact ⟨rfl, _, Eq.trans (World.drewN_drewN _ _ _) (congrArg (World.drewN _) (Nat.add_assoc _ _ _))⟩)) | (go_at_call 77; (with_reducible refine (impl_in.calls a0_1 0 63 false _ A4.out).mono ?_); rintro e w' ⟨rfl, ⟨nd, rfl⟩⟩; (try first | exact ⟨rfl, _, World.drewN_drewN _ _ _⟩ | exact ⟨rfl, _, Eq.trans (World.drewN_drewN _ _ _) (congrArg (World.drewN _) (Nat.add_assoc _ _ _))⟩))))
   go_ret3
   exact ⟨er_, nbe HB⟩
 ·replace c3 := Bool.eq_false_iff.mpr c3
  subst c3; have H1 : (some (0, 0, false)) = some (r1, r2, r3) := by rw [if_neg (show ¬ (false = true) by decide)] at H; exact H
  clear H; have H := H1; clear H1; simp only [Option.some.injEq, Prod.mk.injEq] at H; obtain ⟨rfl, rfl, rfl⟩ := H
  go_enter Try.func92, Try.ntmps92
  go_wp2_with (first | ((with_reducible refine gate_dst (N := 1) rfl ?_); refine bxe 1 #[.int .i64 a0_0, .int .i64 a0_1, .int .i64 a0_2] 84 ?_; intro bs hg dv hbox hb; have bb := hbox; have bt := nge HB hg; have bu := nge HB hg; replace HB := nbs HB hb; clear hb hbox hg; obtain ⟨dw, dx, dy⟩ := c3e bb; obtain ⟨dz, dA, dB⟩ := z3_ bb) | (go_at_call 77; (with_reducible refine (impl_in.calls a0_0 0 6 false _ A2.out).mono ?_); rintro e w' ⟨rfl, ⟨nd, rfl⟩⟩; (try first | exact ⟨rfl, _, World.drewN_drewN _ _ _⟩ | exact ⟨rfl, _, Eq.trans (World.drewN_drewN _ _ _) (congrArg (World.drewN _) (Nat.add_assoc _ _ _))⟩)))
  repeat (go_quiet (first | ((with_reducible refine gate_dst (N := 1) rfl ?_); refine bxe 1 #[.int .i64 a0_0, .int .i64 a0_1, .int .i64 a0_2] 84 ?_; intro bs hg dv hbox hb; have bb := hbox; have bt := nge HB hg; have bu := nge HB hg; replace HB := nbs HB hb; clear hb hbox hg; obtain ⟨dw, dx, dy⟩ := c3e bb; obtain ⟨dz, dA, dB⟩ := z3_ bb) | (go_at_call 77; (with_reducible refine (impl_in.calls a0_0 0 6 false _ A2.out).mono ?_); rintro e w' ⟨rfl, ⟨nd, rfl⟩⟩; (try first | exact ⟨rfl, _, World.drewN_drewN _ _ _⟩ | exact ⟨rfl, _, Eq.trans (World.drewN_drewN _ _ _) (congrArg (World.drewN _) (Nat.add_assoc _ _ _))⟩))); try go_wp2_with (first | ((with_reducible refine gate_dst (N := 1) rfl ?_); refine bxe 1 #[.int .i64 a0_0, .int .i64 a0_1, .int .i64 a0_2] 84 ?_; intro bs hg dv hbox hb; have bb := hbox; have bt := nge HB hg; have bu := nge HB hg; replace HB := nbs HB hb; clear hb hbox hg; obtain ⟨dw, dx, dy⟩ := c3e bb; obtain ⟨dz, dA, dB⟩ := z3_ bb) | (go_at_call 77; (with_reducible refine (impl_in.calls a0_0 0 6 false _ A2.out).mono ?_); rintro e w' ⟨rfl, ⟨nd, rfl⟩⟩; (try first | exact ⟨rfl, _, World.drewN_drewN _ _ _⟩ | exact ⟨rfl, _, Eq.trans (World.drewN_drewN _ _ _) (congrArg (World.drewN _) (Nat.add_assoc _ _ _))⟩))))
  go_ret3
  exact ⟨er_, nbe HB⟩

/-! ### impl_Wide: function 66 -/
def impl_Wide.f (k : Nat) (a0 : Int) (a1 : Int) : Option (Int × Int) := (impl_BoundsOk.f a0 a1).bind fun bY => (if bY = true then ((impl_Pack.f k a0 a1).bind fun bg => (if bg.2.2.2 = true then ((impl_Unpack.f bg.1 bg.2.1 bg.2.2.1).bind fun bj => (some (bj.1, bj.2.1))) else (some (0, 4096)))) else (some (0, 0)))
theorem impl_Wide.mono : ∀ a0 a1 k, LeO (impl_Wide.f k a0 a1) (impl_Wide.f (k + 1) a0 a1) := by
 intro a0 a1 k
 unfold impl_Wide.f
 repeat' first
   | (with_reducible exact impl_Pack.mono _ _ _)
   | (with_reducible exact LeO.refl _)
   | (with_reducible exact LeO.none _)
   | (with_reducible refine LeO.ite ?_ ?_)
   | (with_reducible refine LeO.bind ?_ (fun _ => ?_))
   | exact impl_Pack.mono _ _ _
   | exact LeO.none _
   | refine LeO.ite ?_ ?_
   | refine LeO.bind ?_ (fun _ => ?_)
set_option maxHeartbeats 8000000 in
set_option maxRecDepth 100000 in
theorem impl_Wide.calls (k : Nat) (a0 : Int) (a1 : Int) (r1 : Int) (r2 : Int) (w : World) (h : impl_Wide.f k a0 a1 = some (r1, r2)) :
  Calls Try.prog 66 #[.int .i64 a0, .int .i64 a1] w fun e w' => e = .returned (.tuple #[.int .i64 r1, .int .i64 r2]) ∧ Below w.heap.size w w' := by
 have hu84 := Try.underlying84; have HB := Aside0.mk (Below.refl w.heap.size w); have H : ((impl_BoundsOk.f a0 a1).bind fun bY => (if bY = true then ((impl_Pack.f k a0 a1).bind fun bg => (if bg.2.2.2 = true then ((impl_Unpack.f bg.1 bg.2.1 bg.2.2.1).bind fun bj => (some (bj.1, bj.2.1))) else (some (0, 4096)))) else (some (0, 0)))) = some (r1, r2) := h; clear h; replace H := Option.bind_eq_some_iff.mp H; obtain ⟨bY, A30, H⟩ := H; replace H : (if bY = true then ((impl_Pack.f k a0 a1).bind fun bg => (if bg.2.2.2 = true then ((impl_Unpack.f bg.1 bg.2.1 bg.2.2.1).bind fun bj => (some (bj.1, bj.2.1))) else (some (0, 4096)))) else (some (0, 0))) = some (r1, r2) := H; have A3 := Aside0.mk A30; clear A30
 by_cases c4 : bY = true
 ·subst c4
  have H1 : ((impl_Pack.f k a0 a1).bind fun bg => (if bg.2.2.2 = true then ((impl_Unpack.f bg.1 bg.2.1 bg.2.2.1).bind fun bj => (some (bj.1, bj.2.1))) else (some (0, 4096)))) = some (r1, r2) := by rw [if_pos rfl] at H; exact H
  clear H; have H := H1; clear H1; replace H := Option.bind_eq_some_iff.mp H; obtain ⟨⟨bJ, bK, bL, ec⟩, A50, H⟩ := H; replace H : (if ec = true then ((impl_Unpack.f bJ bK bL).bind fun bj => (some (bj.1, bj.2.1))) else (some (0, 4096))) = some (r1, r2) := H; have A5 := Aside0.mk A50; clear A50
  by_cases c6 : ec = true
  ·subst c6
   have H1 : ((impl_Unpack.f bJ bK bL).bind fun bj => (some (bj.1, bj.2.1))) = some (r1, r2) := by rw [if_pos rfl] at H; exact H
   clear H; have H := H1; clear H1; replace H := Option.bind_eq_some_iff.mp H; obtain ⟨⟨ed, ee, eK⟩, A70, H⟩ := H; replace H : (some (ed, ee)) = some (r1, r2) := H; have A7 := Aside0.mk A70; clear A70; simp only [Option.some.injEq, Prod.mk.injEq] at H; obtain ⟨rfl, rfl⟩ := H
   go_enter Try.func66, Try.ntmps66
   go_wp2_with (first | ((with_reducible refine gate_callee (f := 65) rfl ?_); refine goesM (some 13) rfl rfl Try.func65 (by kernel_rfl) rfl #[.int .i64 a0, .int .i64 a1] rfl ?_; (with_reducible refine (impl_BoundsOk.calls a0 a1 true _ A3.out).mono ?_); rintro e w' ⟨rfl, ⟨nd, rfl⟩⟩; refine ⟨_, rfl, ?_⟩) | ((with_reducible refine gate_callee (f := 91) rfl ?_); refine goesM (some 18) rfl rfl Try.func91 (by kernel_rfl) rfl #[.int .i64 a0, .int .i64 a1] rfl ?_; (with_reducible refine (impl_Pack.calls k a0 a1 bJ bK bL true _ A5.out).mono ?_); rintro e w8 ⟨rfl, hb⟩; refine ⟨_, rfl, ?_⟩; replace HB := nbs HB hb; (try clear hb)) | ((with_reducible refine gate_dst (N := 6) rfl ?_); refine bxe 6 #[.int .i64 0, .int .i64 0, .int .i64 0] 84 ?_; intro ef hg w9 hbox hb; have bM := hbox; have eL := nge HB hg; have eM := nge HB hg; replace HB := nbs HB hb; clear hb hbox hg; obtain ⟨dh, di, dj⟩ := c3e bM; obtain ⟨dk, dl, dm⟩ := z3_ bM) | ((with_reducible refine gate_callee (f := 92) rfl ?_); refine goesM (some 25) rfl rfl Try.func92 (by kernel_rfl) rfl #[.agg #[.int .i64 bJ, .int .i64 bK, .int .i64 bL]] rfl ?_; (with_reducible refine (impl_Unpack.calls bJ bK bL ed ee eK _ A7.out).mono ?_); rintro e eg ⟨rfl, hb⟩; refine ⟨_, rfl, ?_⟩; replace bM := Aside0.mk (blk_below (g := ef) (o := .cells #[.int .i64 bJ, .int .i64 bK, .int .i64 bL] 84 (0, 0)) (q3 bM) hb); replace HB := nbs HB hb; (try clear hb)))
   go_ret2
   exact ⟨er_, nbe HB⟩
  ·replace c6 := Bool.eq_false_iff.mpr c6
   subst c6; have H1 : (some (0, 4096)) = some (r1, r2) := by rw [if_neg (show ¬ (false = true) by decide)] at H; exact H
   clear H; have H := H1; clear H1; simp only [Option.some.injEq, Prod.mk.injEq] at H; obtain ⟨rfl, rfl⟩ := H
   go_enter Try.func66, Try.ntmps66
   go_wp2_with (first | ((with_reducible refine gate_callee (f := 65) rfl ?_); refine goesM (some 13) rfl rfl Try.func65 (by kernel_rfl) rfl #[.int .i64 a0, .int .i64 a1] rfl ?_; (with_reducible refine (impl_BoundsOk.calls a0 a1 true _ A3.out).mono ?_); rintro e w' ⟨rfl, ⟨nd, rfl⟩⟩; refine ⟨_, rfl, ?_⟩) | ((with_reducible refine gate_callee (f := 91) rfl ?_); refine goesM (some 18) rfl rfl Try.func91 (by kernel_rfl) rfl #[.int .i64 a0, .int .i64 a1] rfl ?_; (with_reducible refine (impl_Pack.calls k a0 a1 bJ bK bL false _ A5.out).mono ?_); rintro e gG ⟨rfl, hb⟩; refine ⟨_, rfl, ?_⟩; replace HB := nbs HB hb; (try clear hb)) | ((with_reducible refine gate_dst (N := 6) rfl ?_); refine bxe 6 #[.int .i64 0, .int .i64 0, .int .i64 0] 84 ?_; intro ef hg bI hbox hb; have bM := hbox; have eL := nge HB hg; have eM := nge HB hg; replace HB := nbs HB hb; clear hb hbox hg; obtain ⟨bS, bT, bU⟩ := c3e bM; obtain ⟨bV, bW, bX⟩ := z3_ bM))
   go_ret2
   exact ⟨er_, nbe HB⟩
 ·replace c4 := Bool.eq_false_iff.mpr c4
  subst c4; have H1 : (some (0, 0)) = some (r1, r2) := by rw [if_neg (show ¬ (false = true) by decide)] at H; exact H
  clear H; have H := H1; clear H1; simp only [Option.some.injEq, Prod.mk.injEq] at H; obtain ⟨rfl, rfl⟩ := H
  go_enter Try.func66, Try.ntmps66
  go_wp2_with (first | ((with_reducible refine gate_callee (f := 65) rfl ?_); refine goesM (some 13) rfl rfl Try.func65 (by kernel_rfl) rfl #[.int .i64 a0, .int .i64 a1] rfl ?_; (with_reducible refine (impl_BoundsOk.calls a0 a1 false _ A3.out).mono ?_); rintro e w' ⟨rfl, ⟨nd, rfl⟩⟩; refine ⟨_, rfl, ?_⟩))
  go_ret2
  exact ⟨er_, nbe HB⟩

/-! ### impl_Exact: function 84 -/
def impl_Exact.f (k : Nat) (a0 : Int) (a1 : Int) : Option (Bool) := (impl_Wide.f k a0 a1).bind fun db => ((impl_BoundsOk.f a0 a1).bind fun bD => (if bD = true then (if db.1 = a0 then (some (db.2 == a1)) else (some false)) else (some false)))
theorem impl_Exact.mono : ∀ a0 a1 k, LeO (impl_Exact.f k a0 a1) (impl_Exact.f (k + 1) a0 a1) := by
 intro a0 a1 k
 unfold impl_Exact.f
 repeat' first
   | (with_reducible exact impl_Wide.mono _ _ _)
   | (with_reducible exact LeO.refl _)
   | (with_reducible exact LeO.none _)
   | (with_reducible refine LeO.ite ?_ ?_)
   | (with_reducible refine LeO.bind ?_ (fun _ => ?_))
   | exact impl_Wide.mono _ _ _
   | exact LeO.none _
   | refine LeO.ite ?_ ?_
   | refine LeO.bind ?_ (fun _ => ?_)
set_option maxHeartbeats 8000000 in
set_option maxRecDepth 100000 in
theorem impl_Exact.calls (k : Nat) (a0 : Int) (a1 : Int) (r : Bool) (w : World) (h : impl_Exact.f k a0 a1 = some r) :
  Calls Try.prog 84 #[.int .i64 a0, .int .i64 a1] w fun e w' => e = .returned (.bool r) ∧ Below w.heap.size w w' := by
 have HB := Aside0.mk (Below.refl w.heap.size w); have H : ((impl_Wide.f k a0 a1).bind fun db => ((impl_BoundsOk.f a0 a1).bind fun bD => (if bD = true then (if db.1 = a0 then (some (db.2 == a1)) else (some false)) else (some false)))) = some r := h; clear h; replace H := Option.bind_eq_some_iff.mp H; obtain ⟨⟨bv, bZ⟩, A30, H⟩ := H; replace H : ((impl_BoundsOk.f a0 a1).bind fun bD => (if bD = true then (if bv = a0 then (some (bZ == a1)) else (some false)) else (some false))) = some r := H; have A3 := Aside0.mk A30; clear A30; replace H := Option.bind_eq_some_iff.mp H; obtain ⟨bD, A40, H⟩ := H; replace H : (if bD = true then (if bv = a0 then (some (bZ == a1)) else (some false)) else (some false)) = some r := H; have A4 := Aside0.mk A40; clear A40
 by_cases c5 : bD = true
 ·subst c5
  have H1 : (if bv = a0 then (some (bZ == a1)) else (some false)) = some r := by rw [if_pos rfl] at H; exact H
  clear H; have H := H1; clear H1
  by_cases c6 : bv = a0
  ·rw [if_pos c6] at H
   have c6b0 : (bv == a0) = true := beq_iff_eq.mpr c6; have c6b1 : (bv != a0) = false := bne_eq_false_iff_eq.mpr c6; clear c6; obtain rfl := Option.some.inj H
   go_enter Try.func84, Try.ntmps84
   go_wp2_with (first | ((with_reducible refine gate_callee (f := 66) rfl ?_); refine goesM (some 10) rfl rfl Try.func66 (by kernel_rfl) rfl #[.int .i64 a0, .int .i64 a1] rfl ?_; (with_reducible refine (impl_Wide.calls k a0 a1 bv bZ _ A3.out).mono ?_); rintro e w7 ⟨rfl, hb⟩; refine ⟨_, rfl, ?_⟩; replace HB := nbs HB hb; (try clear hb)) | ((with_reducible refine gate_callee (f := 65) rfl ?_); refine goesM (some 15) rfl rfl Try.func65 (by kernel_rfl) rfl #[.int .i64 a0, .int .i64 a1] rfl ?_; (with_reducible refine (impl_BoundsOk.calls a0 a1 true _ A4.out).mono ?_); rintro e w' ⟨rfl, ⟨nd, rfl⟩⟩; refine ⟨_, rfl, ?_⟩))
   go_ret
   exact ⟨er_, nbe HB⟩
  ·rw [if_neg c6] at H
   have c6b0 : (bv == a0) = false := beq_eq_false_iff_ne.mpr c6; have c6b1 : (bv != a0) = true := bne_iff_ne.mpr c6; obtain rfl := Option.some.inj H
   go_enter Try.func84, Try.ntmps84
   go_wp2_with (first | ((with_reducible refine gate_callee (f := 66) rfl ?_); refine goesM (some 10) rfl rfl Try.func66 (by kernel_rfl) rfl #[.int .i64 a0, .int .i64 a1] rfl ?_; (with_reducible refine (impl_Wide.calls k a0 a1 bv bZ _ A3.out).mono ?_); rintro e w8 ⟨rfl, hb⟩; refine ⟨_, rfl, ?_⟩; replace HB := nbs HB hb; (try clear hb)) | ((with_reducible refine gate_callee (f := 65) rfl ?_); refine goesM (some 15) rfl rfl Try.func65 (by kernel_rfl) rfl #[.int .i64 a0, .int .i64 a1] rfl ?_; (with_reducible refine (impl_BoundsOk.calls a0 a1 true _ A4.out).mono ?_); rintro e w' ⟨rfl, ⟨nd, rfl⟩⟩; refine ⟨_, rfl, ?_⟩))
   go_ret
   exact ⟨er_, nbe HB⟩
 ·replace c5 := Bool.eq_false_iff.mpr c5
  subst c5; have H1 : (some false) = some r := by rw [if_neg (show ¬ (false = true) by decide)] at H; exact H
  clear H; have H := H1; clear H1; obtain rfl := Option.some.inj H
  go_enter Try.func84, Try.ntmps84
  go_wp2_with (first | ((with_reducible refine gate_callee (f := 66) rfl ?_); refine goesM (some 10) rfl rfl Try.func66 (by kernel_rfl) rfl #[.int .i64 a0, .int .i64 a1] rfl ?_; (with_reducible refine (impl_Wide.calls k a0 a1 bv bZ _ A3.out).mono ?_); rintro e w9 ⟨rfl, hb⟩; refine ⟨_, rfl, ?_⟩; replace HB := nbs HB hb; (try clear hb)) | ((with_reducible refine gate_callee (f := 65) rfl ?_); refine goesM (some 15) rfl rfl Try.func65 (by kernel_rfl) rfl #[.int .i64 a0, .int .i64 a1] rfl ?_; (with_reducible refine (impl_BoundsOk.calls a0 a1 false _ A4.out).mono ?_); rintro e w' ⟨rfl, ⟨nd, rfl⟩⟩; refine ⟨_, rfl, ?_⟩))
  go_ret
  exact ⟨er_, nbe HB⟩

/-! ### impl_KeyOk: function 34 -/
def impl_KeyOk.f (k : Nat) (a0_0 : Int) (a0_1 : Int) (a0_2 : Int) (a0_3 : Int) : Option (Bool) := (impl_Exact.f k a0_0 a0_1).bind fun b0 => (if b0 = true then ((impl_in.f a0_2 0 63).bind fun bx => (if bx = true then ((impl_in.f a0_3 0 7).bind fun bo => (some bo)) else (some false))) else (some false))
theorem impl_KeyOk.mono : ∀ a0 a1 a2 a3 k, LeO (impl_KeyOk.f k a0 a1 a2 a3) (impl_KeyOk.f (k + 1) a0 a1 a2 a3) := by
 intro a0 a1 a2 a3 k
 unfold impl_KeyOk.f
 repeat' first
   | (with_reducible exact impl_Exact.mono _ _ _)
   | (with_reducible exact LeO.refl _)
   | (with_reducible exact LeO.none _)
   | (with_reducible refine LeO.ite ?_ ?_)
   | (with_reducible refine LeO.bind ?_ (fun _ => ?_))
   | exact impl_Exact.mono _ _ _
   | exact LeO.none _
   | refine LeO.ite ?_ ?_
   | refine LeO.bind ?_ (fun _ => ?_)
set_option maxHeartbeats 8000000 in
set_option maxRecDepth 100000 in
theorem impl_KeyOk.calls (k : Nat) (a0_0 : Int) (a0_1 : Int) (a0_2 : Int) (a0_3 : Int) (r : Bool) (w : World) (h : impl_KeyOk.f k a0_0 a0_1 a0_2 a0_3 = some r) :
  Calls Try.prog 34 #[.agg #[.int .i64 a0_0, .int .i64 a0_1, .int .i64 a0_2, .int .i64 a0_3]] w fun e w' => e = .returned (.bool r) ∧ Below w.heap.size w w' := by
 have hu25 := Try.underlying25; have HB := Aside0.mk (Below.refl w.heap.size w); have H : ((impl_Exact.f k a0_0 a0_1).bind fun b0 => (if b0 = true then ((impl_in.f a0_2 0 63).bind fun bx => (if bx = true then ((impl_in.f a0_3 0 7).bind fun bo => (some bo)) else (some false))) else (some false))) = some r := h; clear h; replace H := Option.bind_eq_some_iff.mp H; obtain ⟨b0, A20, H⟩ := H; replace H : (if b0 = true then ((impl_in.f a0_2 0 63).bind fun bx => (if bx = true then ((impl_in.f a0_3 0 7).bind fun bo => (some bo)) else (some false))) else (some false)) = some r := H; have A2 := Aside0.mk A20; clear A20
 by_cases c3 : b0 = true
 ·subst c3
  have H1 : ((impl_in.f a0_2 0 63).bind fun bx => (if bx = true then ((impl_in.f a0_3 0 7).bind fun bo => (some bo)) else (some false))) = some r := by rw [if_pos rfl] at H; exact H
  clear H; have H := H1; clear H1; replace H := Option.bind_eq_some_iff.mp H; obtain ⟨bx, A40, H⟩ := H; replace H : (if bx = true then ((impl_in.f a0_3 0 7).bind fun bo => (some bo)) else (some false)) = some r := H; have A4 := Aside0.mk A40; clear A40
  by_cases c5 : bx = true
  ·subst c5
   have H1 : ((impl_in.f a0_3 0 7).bind fun bo => (some bo)) = some r := by rw [if_pos rfl] at H; exact H
   clear H; have H := H1; clear H1; replace H := Option.bind_eq_some_iff.mp H; obtain ⟨bo, A60, H⟩ := H; replace H : (some bo) = some r := H; have A6 := Aside0.mk A60; clear A60; obtain rfl := Option.some.inj H
   go_enter Try.func34, Try.ntmps34
   go_wp2_with (first | ((with_reducible refine gate_dst (N := 1) rfl ?_); refine bxe 1 #[.int .i64 a0_0, .int .i64 a0_1, .int .i64 a0_2, .int .i64 a0_3] 25 ?_; intro eh hg w7 hbox hb; have bh := hbox; have ei := nge HB hg; have ej := nge HB hg; replace HB := nbs HB hb; clear hb hbox hg; obtain ⟨dC, dD, dE, dF⟩ := c4e bh; obtain ⟨dG, dH, dI, dJ⟩ := z4_ bh) | ((with_reducible refine gate_callee (f := 84) rfl ?_); refine goesM (some 7) rfl rfl Try.func84 (by kernel_rfl) rfl #[.int .i64 a0_0, .int .i64 a0_1] rfl ?_; (with_reducible refine (impl_Exact.calls k a0_0 a0_1 true _ A2.out).mono ?_); rintro e w9 ⟨rfl, hb⟩; refine ⟨_, rfl, ?_⟩; replace bh := nblk bh hb; replace HB := nbs HB hb; (try clear hb); obtain ⟨dh, di, dj, dK⟩ := c4e bh; obtain ⟨dk, dl, dm, dL⟩ := z4_ bh) | (go_at_call 77; (with_reducible refine (impl_in.calls a0_2 0 63 true _ A4.out).mono ?_); rintro e w' ⟨rfl, ⟨nd, rfl⟩⟩) | (go_at_call 77; (with_reducible refine (impl_in.calls a0_3 0 7 bo _ A6.out).mono ?_); rintro e w' ⟨rfl, ⟨nd, rfl⟩⟩))
   go_ret
   exact ⟨er_, nbe HB⟩
  ·replace c5 := Bool.eq_false_iff.mpr c5
   subst c5; have H1 : (some false) = some r := by rw [if_neg (show ¬ (false = true) by decide)] at H; exact H
   clear H; have H := H1; clear H1; obtain rfl := Option.some.inj H
   go_enter Try.func34, Try.ntmps34
   go_wp2_with (first | ((with_reducible refine gate_dst (N := 1) rfl ?_); refine bxe 1 #[.int .i64 a0_0, .int .i64 a0_1, .int .i64 a0_2, .int .i64 a0_3] 25 ?_; intro eh hg eg hbox hb; have bh := hbox; have ei := nge HB hg; have ej := nge HB hg; replace HB := nbs HB hb; clear hb hbox hg; obtain ⟨d5, d6, d7, eN⟩ := c4e bh; obtain ⟨d8, d9, ea, eO⟩ := z4_ bh) | ((with_reducible refine gate_callee (f := 84) rfl ?_); refine goesM (some 7) rfl rfl Try.func84 (by kernel_rfl) rfl #[.int .i64 a0_0, .int .i64 a0_1] rfl ?_; (with_reducible refine (impl_Exact.calls k a0_0 a0_1 true _ A2.out).mono ?_); rintro e bI ⟨rfl, hb⟩; refine ⟨_, rfl, ?_⟩; replace bh := nblk bh hb; replace HB := nbs HB hb; (try clear hb); obtain ⟨bS, bT, bU, ek⟩ := c4e bh; obtain ⟨bV, bW, bX, el⟩ := z4_ bh) | (go_at_call 77; (with_reducible refine (impl_in.calls a0_2 0 63 false _ A4.out).mono ?_); rintro e w' ⟨rfl, ⟨nd, rfl⟩⟩))
   go_ret
   exact ⟨er_, nbe HB⟩
 ·replace c3 := Bool.eq_false_iff.mpr c3
  subst c3; have H1 : (some false) = some r := by rw [if_neg (show ¬ (false = true) by decide)] at H; exact H
  clear H; have H := H1; clear H1; obtain rfl := Option.some.inj H
  go_enter Try.func34, Try.ntmps34
  go_wp2_with (first | ((with_reducible refine gate_dst (N := 1) rfl ?_); refine bxe 1 #[.int .i64 a0_0, .int .i64 a0_1, .int .i64 a0_2, .int .i64 a0_3] 25 ?_; intro eh hg b4 hbox hb; have bh := hbox; have ei := nge HB hg; have ej := nge HB hg; replace HB := nbs HB hb; clear hb hbox hg; obtain ⟨b5, b6, b7, em⟩ := c4e bh; obtain ⟨b8, b9, da, en⟩ := z4_ bh) | ((with_reducible refine gate_callee (f := 84) rfl ?_); refine goesM (some 7) rfl rfl Try.func84 (by kernel_rfl) rfl #[.int .i64 a0_0, .int .i64 a0_1] rfl ?_; (with_reducible refine (impl_Exact.calls k a0_0 a0_1 false _ A2.out).mono ?_); rintro e dg ⟨rfl, hb⟩; refine ⟨_, rfl, ?_⟩; replace bh := nblk bh hb; replace HB := nbs HB hb; (try clear hb)))
  go_ret
  exact ⟨er_, nbe HB⟩

/-! ### impl_WordOk: function 25 -/
def impl_WordOk.f (k : Nat) (a0_0 : Int) (a0_1 : Bool) (a0_2 : Int) (a0_3 : Int) (a0_4 : Int) (a0_5 : Int) : Option (Bool) := if a0_1 = true then ((impl_in.f a0_0 0 65535).bind fun bE => (if bE = true then ((impl_KeyOk.f k a0_2 a0_3 a0_4 a0_5).bind fun br => (some br)) else (some false))) else ((impl_in.f a0_0 0 65535).bind fun bF => (if bF = true then (some (a0_2 == 0 && (a0_3 == 0 && (a0_4 == 0 && (a0_5 == 0))))) else (some false)))
theorem impl_WordOk.mono : ∀ a0 a1 a2 a3 a4 a5 k, LeO (impl_WordOk.f k a0 a1 a2 a3 a4 a5) (impl_WordOk.f (k + 1) a0 a1 a2 a3 a4 a5) := by
 intro a0 a1 a2 a3 a4 a5 k
 unfold impl_WordOk.f
 repeat' first
   | (with_reducible exact impl_KeyOk.mono _ _ _ _ _)
   | (with_reducible exact LeO.refl _)
   | (with_reducible exact LeO.none _)
   | (with_reducible refine LeO.ite ?_ ?_)
   | (with_reducible refine LeO.bind ?_ (fun _ => ?_))
   | exact impl_KeyOk.mono _ _ _ _ _
   | exact LeO.none _
   | refine LeO.ite ?_ ?_
   | refine LeO.bind ?_ (fun _ => ?_)
set_option maxHeartbeats 8000000 in
set_option maxRecDepth 100000 in
theorem impl_WordOk.calls (k : Nat) (a0_0 : Int) (a0_1 : Bool) (a0_2 : Int) (a0_3 : Int) (a0_4 : Int) (a0_5 : Int) (r : Bool) (w : World) (h : impl_WordOk.f k a0_0 a0_1 a0_2 a0_3 a0_4 a0_5 = some r) :
  Calls Try.prog 25 #[.agg #[.int .i64 a0_0, .bool a0_1, .int .i64 a0_2, .int .i64 a0_3, .int .i64 a0_4, .int .i64 a0_5]] w fun e w' => e = .returned (.bool r) ∧ Below w.heap.size w w' := by
 have hu27 := Try.underlying27; have hu25 := Try.underlying25; have HB := Aside0.mk (Below.refl w.heap.size w); have H : (if a0_1 = true then ((impl_in.f a0_0 0 65535).bind fun bE => (if bE = true then ((impl_KeyOk.f k a0_2 a0_3 a0_4 a0_5).bind fun br => (some br)) else (some false))) else ((impl_in.f a0_0 0 65535).bind fun bF => (if bF = true then (some (a0_2 == 0 && (a0_3 == 0 && (a0_4 == 0 && (a0_5 == 0))))) else (some false)))) = some r := h; clear h
 by_cases c2 : a0_1 = true
 ·subst c2
  have H1 : ((impl_in.f a0_0 0 65535).bind fun bE => (if bE = true then ((impl_KeyOk.f k a0_2 a0_3 a0_4 a0_5).bind fun br => (some br)) else (some false))) = some r := by rw [if_pos rfl] at H; exact H
  clear H; have H := H1; clear H1; replace H := Option.bind_eq_some_iff.mp H; obtain ⟨bE, A30, H⟩ := H; replace H : (if bE = true then ((impl_KeyOk.f k a0_2 a0_3 a0_4 a0_5).bind fun br => (some br)) else (some false)) = some r := H; have A3 := Aside0.mk A30; clear A30
  by_cases c4 : bE = true
  ·subst c4
   have H1 : ((impl_KeyOk.f k a0_2 a0_3 a0_4 a0_5).bind fun br => (some br)) = some r := by rw [if_pos rfl] at H; exact H
   clear H; have H := H1; clear H1; replace H := Option.bind_eq_some_iff.mp H; obtain ⟨br, A50, H⟩ := H; replace H : (some br) = some r := H; have A5 := Aside0.mk A50; clear A50; obtain rfl := Option.some.inj H
   go_enter Try.func25, Try.ntmps25
   go_wp2_with (first | ((with_reducible refine gate_dst (N := 1) rfl ?_); refine bxe 1 #[.int .i64 a0_0, .bool true, .int .i64 a0_2, .int .i64 a0_3, .int .i64 a0_4, .int .i64 a0_5] 27 ?_; intro dM hg w6 hbox hb; have bq := hbox; have dN := nge HB hg; have dO := nge HB hg; replace HB := nbs HB hb; clear hb hbox hg; obtain ⟨eP, eQ, eR, eS, eT, eU⟩ := c6e bq; obtain ⟨eV, eW, eX, eY, eZ, e0⟩ := z6_ bq) | ((with_reducible refine gate_callee (f := 77) rfl ?_); refine goesM (some 7) rfl rfl Try.func77 (by kernel_rfl) rfl #[.int .i64 a0_0, .int .i64 0, .int .i64 65535] rfl ?_; (with_reducible refine (impl_in.calls a0_0 0 65535 true _ A3.out).mono ?_); rintro e w' ⟨rfl, ⟨nd, rfl⟩⟩; refine ⟨_, rfl, ?_⟩) | (go_at_call 34; (with_reducible refine (impl_KeyOk.calls k a0_2 a0_3 a0_4 a0_5 br _ A5.out).mono ?_); rintro e w8 ⟨rfl, hb⟩; replace bq := nblk bq hb; replace HB := nbs HB hb; (try clear hb)))
   go_ret
   exact ⟨er_, nbe HB⟩
  ·replace c4 := Bool.eq_false_iff.mpr c4
   subst c4; have H1 : (some false) = some r := by rw [if_neg (show ¬ (false = true) by decide)] at H; exact H
   clear H; have H := H1; clear H1; obtain rfl := Option.some.inj H
   go_enter Try.func25, Try.ntmps25
   go_wp2_with (first | ((with_reducible refine gate_dst (N := 1) rfl ?_); refine bxe 1 #[.int .i64 a0_0, .bool true, .int .i64 a0_2, .int .i64 a0_3, .int .i64 a0_4, .int .i64 a0_5] 27 ?_; intro dM hg w9 hbox hb; have bq := hbox; have dN := nge HB hg; have dO := nge HB hg; replace HB := nbs HB hb; clear hb hbox hg; obtain ⟨dh, di, dj, dK, eo, ep⟩ := c6e bq; obtain ⟨dk, dl, dm, dL, er, es⟩ := z6_ bq) | ((with_reducible refine gate_callee (f := 77) rfl ?_); refine goesM (some 7) rfl rfl Try.func77 (by kernel_rfl) rfl #[.int .i64 a0_0, .int .i64 0, .int .i64 65535] rfl ?_; (with_reducible refine (impl_in.calls a0_0 0 65535 false _ A3.out).mono ?_); rintro e w' ⟨rfl, ⟨nd, rfl⟩⟩; refine ⟨_, rfl, ?_⟩))
   go_ret
   exact ⟨er_, nbe HB⟩
 ·replace c2 := Bool.eq_false_iff.mpr c2
  subst c2; have H1 : ((impl_in.f a0_0 0 65535).bind fun bF => (if bF = true then (some (a0_2 == 0 && (a0_3 == 0 && (a0_4 == 0 && (a0_5 == 0))))) else (some false))) = some r := by rw [if_neg (show ¬ (false = true) by decide)] at H; exact H
  clear H; have H := H1; clear H1; replace H := Option.bind_eq_some_iff.mp H; obtain ⟨bF, A110, H⟩ := H; replace H : (if bF = true then (some (a0_2 == 0 && (a0_3 == 0 && (a0_4 == 0 && (a0_5 == 0))))) else (some false)) = some r := H; have A11 := Aside0.mk A110; clear A110
  by_cases c12 : bF = true
  ·subst c12
   have H1 : (some (a0_2 == 0 && (a0_3 == 0 && (a0_4 == 0 && (a0_5 == 0))))) = some r := by rw [if_pos rfl] at H; exact H
   clear H; have H := H1; clear H1; obtain rfl := Option.some.inj H
   go_enter Try.func25, Try.ntmps25
   go_wp2_with (first | ((with_reducible refine gate_dst (N := 1) rfl ?_); refine bxe 1 #[.int .i64 a0_0, .bool false, .int .i64 a0_2, .int .i64 a0_3, .int .i64 a0_4, .int .i64 a0_5] 27 ?_; intro dM hg bI hbox hb; have bq := hbox; have dN := nge HB hg; have dO := nge HB hg; replace HB := nbs HB hb; clear hb hbox hg; obtain ⟨bS, bT, bU, ek, e1, e2⟩ := c6e bq; obtain ⟨bV, bW, bX, el, e3, e4⟩ := z6_ bq) | ((with_reducible refine gate_callee (f := 77) rfl ?_); refine goesM (some 15) rfl rfl Try.func77 (by kernel_rfl) rfl #[.int .i64 a0_0, .int .i64 0, .int .i64 65535] rfl ?_; (with_reducible refine (impl_in.calls a0_0 0 65535 true _ A11.out).mono ?_); rintro e w' ⟨rfl, ⟨nd, rfl⟩⟩; refine ⟨_, rfl, ?_⟩))
   go_ret
   exact ⟨er_, nbe HB⟩
  ·replace c12 := Bool.eq_false_iff.mpr c12
   subst c12; have H1 : (some false) = some r := by rw [if_neg (show ¬ (false = true) by decide)] at H; exact H
   clear H; have H := H1; clear H1; obtain rfl := Option.some.inj H
   go_enter Try.func25, Try.ntmps25
   go_wp2_with (first | ((with_reducible refine gate_dst (N := 1) rfl ?_); refine bxe 1 #[.int .i64 a0_0, .bool false, .int .i64 a0_2, .int .i64 a0_3, .int .i64 a0_4, .int .i64 a0_5] 27 ?_; intro dM hg b4 hbox hb; have bq := hbox; have dN := nge HB hg; have dO := nge HB hg; replace HB := nbs HB hb; clear hb hbox hg; obtain ⟨b5, b6, b7, em, e5, e6⟩ := c6e bq; obtain ⟨b8, b9, da, en, e7, e8⟩ := z6_ bq) | ((with_reducible refine gate_callee (f := 77) rfl ?_); refine goesM (some 15) rfl rfl Try.func77 (by kernel_rfl) rfl #[.int .i64 a0_0, .int .i64 0, .int .i64 65535] rfl ?_; (with_reducible refine (impl_in.calls a0_0 0 65535 false _ A11.out).mono ?_); rintro e w' ⟨rfl, ⟨nd, rfl⟩⟩; refine ⟨_, rfl, ?_⟩))
   go_ret
   exact ⟨er_, nbe HB⟩

/-! ### impl_open: function 64 -/
def impl_open.f (k : Nat) (a0_0 : Int) (a0_1 : Bool) (a0_2 : Int) (a0_3 : Int) (a0_4 : Int) (a0_5 : Int) : Option (Bool) := (impl_WordOk.f k a0_0 a0_1 a0_2 a0_3 a0_4 a0_5).bind fun b1 => (if b1 = true then (if a0_1 = true then (some (a0_5 == 0)) else (some false)) else (some false))
theorem impl_open.mono : ∀ a0 a1 a2 a3 a4 a5 k, LeO (impl_open.f k a0 a1 a2 a3 a4 a5) (impl_open.f (k + 1) a0 a1 a2 a3 a4 a5) := by
 intro a0 a1 a2 a3 a4 a5 k
 unfold impl_open.f
 repeat' first
   | (with_reducible exact impl_WordOk.mono _ _ _ _ _ _ _)
   | (with_reducible exact LeO.refl _)
   | (with_reducible exact LeO.none _)
   | (with_reducible refine LeO.ite ?_ ?_)
   | (with_reducible refine LeO.bind ?_ (fun _ => ?_))
   | exact impl_WordOk.mono _ _ _ _ _ _ _
   | exact LeO.none _
   | refine LeO.ite ?_ ?_
   | refine LeO.bind ?_ (fun _ => ?_)
set_option maxHeartbeats 8000000 in
set_option maxRecDepth 100000 in
theorem impl_open.calls (k : Nat) (a0_0 : Int) (a0_1 : Bool) (a0_2 : Int) (a0_3 : Int) (a0_4 : Int) (a0_5 : Int) (r : Bool) (w : World) (h : impl_open.f k a0_0 a0_1 a0_2 a0_3 a0_4 a0_5 = some r) :
  Calls Try.prog 64 #[.agg #[.int .i64 a0_0, .bool a0_1, .int .i64 a0_2, .int .i64 a0_3, .int .i64 a0_4, .int .i64 a0_5]] w fun e w' => e = .returned (.bool r) ∧ Below w.heap.size w w' := by
 have hu27 := Try.underlying27; have HB := Aside0.mk (Below.refl w.heap.size w); have H : ((impl_WordOk.f k a0_0 a0_1 a0_2 a0_3 a0_4 a0_5).bind fun b1 => (if b1 = true then (if a0_1 = true then (some (a0_5 == 0)) else (some false)) else (some false))) = some r := h; clear h; replace H := Option.bind_eq_some_iff.mp H; obtain ⟨b1, A20, H⟩ := H; replace H : (if b1 = true then (if a0_1 = true then (some (a0_5 == 0)) else (some false)) else (some false)) = some r := H; have A2 := Aside0.mk A20; clear A20
 by_cases c3 : b1 = true
 ·subst c3
  have H1 : (if a0_1 = true then (some (a0_5 == 0)) else (some false)) = some r := by rw [if_pos rfl] at H; exact H
  clear H; have H := H1; clear H1
  by_cases c4 : a0_1 = true
  ·subst c4
   have H1 : (some (a0_5 == 0)) = some r := by rw [if_pos rfl] at H; exact H
   clear H; have H := H1; clear H1; obtain rfl := Option.some.inj H
   go_enter Try.func64, Try.ntmps64
   go_wp2_with (first | ((with_reducible refine gate_dst (N := 1) rfl ?_); refine bxe 1 #[.int .i64 a0_0, .bool true, .int .i64 a0_2, .int .i64 a0_3, .int .i64 a0_4, .int .i64 a0_5] 27 ?_; intro et hg w5 hbox hb; have bi := hbox; have eu := nge HB hg; have ev := nge HB hg; replace HB := nbs HB hb; clear hb hbox hg; obtain ⟨gH, gI, gJ, gK, gL, gM⟩ := c6e bi; obtain ⟨gN, gO, gP, gQ, gR, gS⟩ := z6_ bi) | ((with_reducible refine gate_callee (f := 25) rfl ?_); refine goesM (some 4) rfl rfl Try.func25 (by kernel_rfl) rfl #[.agg #[.int .i64 a0_0, .bool true, .int .i64 a0_2, .int .i64 a0_3, .int .i64 a0_4, .int .i64 a0_5]] rfl ?_; (with_reducible refine (impl_WordOk.calls k a0_0 true a0_2 a0_3 a0_4 a0_5 true _ A2.out).mono ?_); rintro e w7 ⟨rfl, hb⟩; refine ⟨_, rfl, ?_⟩; replace bi := nblk bi hb; replace HB := nbs HB hb; (try clear hb); obtain ⟨dC, dD, dE, dF, ew, ex⟩ := c6e bi; obtain ⟨dG, dH, dI, dJ, ey, ez⟩ := z6_ bi))
   go_ret
   exact ⟨er_, nbe HB⟩
  ·replace c4 := Bool.eq_false_iff.mpr c4
   subst c4; have H1 : (some false) = some r := by rw [if_neg (show ¬ (false = true) by decide)] at H; exact H
   clear H; have H := H1; clear H1; obtain rfl := Option.some.inj H
   go_enter Try.func64, Try.ntmps64
   go_wp2_with (first | ((with_reducible refine gate_dst (N := 1) rfl ?_); refine bxe 1 #[.int .i64 a0_0, .bool false, .int .i64 a0_2, .int .i64 a0_3, .int .i64 a0_4, .int .i64 a0_5] 27 ?_; intro et hg w9 hbox hb; have bi := hbox; have eu := nge HB hg; have ev := nge HB hg; replace HB := nbs HB hb; clear hb hbox hg; obtain ⟨dh, di, dj, dK, eo, ep⟩ := c6e bi; obtain ⟨dk, dl, dm, dL, er, es⟩ := z6_ bi) | ((with_reducible refine gate_callee (f := 25) rfl ?_); refine goesM (some 4) rfl rfl Try.func25 (by kernel_rfl) rfl #[.agg #[.int .i64 a0_0, .bool false, .int .i64 a0_2, .int .i64 a0_3, .int .i64 a0_4, .int .i64 a0_5]] rfl ?_; (with_reducible refine (impl_WordOk.calls k a0_0 false a0_2 a0_3 a0_4 a0_5 true _ A2.out).mono ?_); rintro e eg ⟨rfl, hb⟩; refine ⟨_, rfl, ?_⟩; replace bi := nblk bi hb; replace HB := nbs HB hb; (try clear hb); obtain ⟨d5, d6, d7, eN, gT, gU⟩ := c6e bi; obtain ⟨d8, d9, ea, eO, gV, gW⟩ := z6_ bi))
   go_ret
   exact ⟨er_, nbe HB⟩
 ·replace c3 := Bool.eq_false_iff.mpr c3
  subst c3; have H1 : (some false) = some r := by rw [if_neg (show ¬ (false = true) by decide)] at H; exact H
  clear H; have H := H1; clear H1; obtain rfl := Option.some.inj H
  go_enter Try.func64, Try.ntmps64
  go_wp2_with (first | ((with_reducible refine gate_dst (N := 1) rfl ?_); refine bxe 1 #[.int .i64 a0_0, .bool a0_1, .int .i64 a0_2, .int .i64 a0_3, .int .i64 a0_4, .int .i64 a0_5] 27 ?_; intro et hg bI hbox hb; have bi := hbox; have eu := nge HB hg; have ev := nge HB hg; replace HB := nbs HB hb; clear hb hbox hg; obtain ⟨bS, bT, bU, ek, e1, e2⟩ := c6e bi; obtain ⟨bV, bW, bX, el, e3, e4⟩ := z6_ bi) | ((with_reducible refine gate_callee (f := 25) rfl ?_); refine goesM (some 4) rfl rfl Try.func25 (by kernel_rfl) rfl #[.agg #[.int .i64 a0_0, .bool a0_1, .int .i64 a0_2, .int .i64 a0_3, .int .i64 a0_4, .int .i64 a0_5]] rfl ?_; (with_reducible refine (impl_WordOk.calls k a0_0 a0_1 a0_2 a0_3 a0_4 a0_5 false _ A2.out).mono ?_); rintro e b4 ⟨rfl, hb⟩; refine ⟨_, rfl, ?_⟩; replace bi := nblk bi hb; replace HB := nbs HB hb; (try clear hb)))
  go_ret
  exact ⟨er_, nbe HB⟩

/-! ### impl_Weaken: function 11 -/
def impl_Weaken.f (k : Nat) (a0_0 : Int) (a0_1 : Bool) (a0_2 : Int) (a0_3 : Int) (a0_4 : Int) (a0_5 : Int) (a1 : Int) : Option (Int × Bool × Int × Int × Int × Int) := (impl_open.f k a0_0 a0_1 a0_2 a0_3 a0_4 a0_5).bind fun b2 => (if b2 = true then (some (a0_0, a0_1, a0_2, a0_3, Go.bits .and .i64 a0_4 (Go.bits .and .i64 a1 63), a0_5)) else ((impl_Bare.f a0_0 a0_1 a0_2 a0_3 a0_4 a0_5).bind fun bc => (some (bc.1, bc.2.1, bc.2.2.1, bc.2.2.2.1, bc.2.2.2.2.1, bc.2.2.2.2.2))))
theorem impl_Weaken.mono : ∀ a0 a1 a2 a3 a4 a5 a6 k, LeO (impl_Weaken.f k a0 a1 a2 a3 a4 a5 a6) (impl_Weaken.f (k + 1) a0 a1 a2 a3 a4 a5 a6) := by
 intro a0 a1 a2 a3 a4 a5 a6 k
 unfold impl_Weaken.f
 repeat' first
   | (with_reducible exact impl_open.mono _ _ _ _ _ _ _)
   | (with_reducible exact LeO.refl _)
   | (with_reducible exact LeO.none _)
   | (with_reducible refine LeO.ite ?_ ?_)
   | (with_reducible refine LeO.bind ?_ (fun _ => ?_))
   | exact impl_open.mono _ _ _ _ _ _ _
   | exact LeO.none _
   | refine LeO.ite ?_ ?_
   | refine LeO.bind ?_ (fun _ => ?_)
set_option maxHeartbeats 8000000 in
set_option maxRecDepth 100000 in
theorem impl_Weaken.calls (k : Nat) (a0_0 : Int) (a0_1 : Bool) (a0_2 : Int) (a0_3 : Int) (a0_4 : Int) (a0_5 : Int) (a1 : Int) (r1 : Int) (r2 : Bool) (r3 : Int) (r4 : Int) (r5 : Int) (r6 : Int) (w : World) (h : impl_Weaken.f k a0_0 a0_1 a0_2 a0_3 a0_4 a0_5 a1 = some (r1, r2, r3, r4, r5, r6)) :
  Calls Try.prog 11 #[.agg #[.int .i64 a0_0, .bool a0_1, .int .i64 a0_2, .int .i64 a0_3, .int .i64 a0_4, .int .i64 a0_5], .int .i64 a1] w fun e w' => e = .returned (.agg #[.int .i64 r1, .bool r2, .int .i64 r3, .int .i64 r4, .int .i64 r5, .int .i64 r6]) ∧ Below w.heap.size w w' := by
 have hu27 := Try.underlying27; have HB := Aside0.mk (Below.refl w.heap.size w); have H : ((impl_open.f k a0_0 a0_1 a0_2 a0_3 a0_4 a0_5).bind fun b2 => (if b2 = true then (some (a0_0, a0_1, a0_2, a0_3, Go.bits .and .i64 a0_4 (Go.bits .and .i64 a1 63), a0_5)) else ((impl_Bare.f a0_0 a0_1 a0_2 a0_3 a0_4 a0_5).bind fun bc => (some (bc.1, bc.2.1, bc.2.2.1, bc.2.2.2.1, bc.2.2.2.2.1, bc.2.2.2.2.2))))) = some (r1, r2, r3, r4, r5, r6) := h; clear h; replace H := Option.bind_eq_some_iff.mp H; obtain ⟨b2, A30, H⟩ := H; replace H : (if b2 = true then (some (a0_0, a0_1, a0_2, a0_3, Go.bits .and .i64 a0_4 (Go.bits .and .i64 a1 63), a0_5)) else ((impl_Bare.f a0_0 a0_1 a0_2 a0_3 a0_4 a0_5).bind fun bc => (some (bc.1, bc.2.1, bc.2.2.1, bc.2.2.2.1, bc.2.2.2.2.1, bc.2.2.2.2.2)))) = some (r1, r2, r3, r4, r5, r6) := H; have A3 := Aside0.mk A30; clear A30
 by_cases c4 : b2 = true
 ·subst c4
  have H1 : (some (a0_0, a0_1, a0_2, a0_3, Go.bits .and .i64 a0_4 (Go.bits .and .i64 a1 63), a0_5)) = some (r1, r2, r3, r4, r5, r6) := by rw [if_pos rfl] at H; exact H
  clear H; have H := H1; clear H1; simp only [Option.some.injEq, Prod.mk.injEq] at H; obtain ⟨rfl, rfl, rfl, rfl, rfl, rfl⟩ := H
  go_enter Try.func11, Try.ntmps11
  go_wp2_with (first | ((with_reducible refine gate_dst (N := 2) rfl ?_); refine bxe 2 #[.int .i64 a0_0, .bool a0_1, .int .i64 a0_2, .int .i64 a0_3, .int .i64 a0_4, .int .i64 a0_5] 27 ?_; intro e9 hg w5 hbox hb; have bf := hbox; have ga := nge HB hg; have gb := nge HB hg; replace HB := nbs HB hb; clear hb hbox hg) | ((with_reducible refine gate_dst (N := 4) rfl ?_); refine bxe 4 #[.int .i64 0, .bool false, .int .i64 0, .int .i64 0, .int .i64 0, .int .i64 0] 27 ?_; intro dP hg w6 hbox hb; have bp := hbox; have gc := nge HB hg; have gd := nge HB hg; have dQ := nlt bf hg; have dn := ngt bf hg; replace bf := nblk bf hb; replace HB := nbs HB hb; clear hb hbox hg; have gX := dQ.out; have gY := dn.out; obtain ⟨dC, dD, dE, dF, ew, ex⟩ := c6e bf; obtain ⟨dG, dH, dI, dJ, ey, ez⟩ := z6_ bf) | ((with_reducible refine gate_callee (f := 64) rfl ?_); refine goesM (some 6) rfl rfl Try.func64 (by kernel_rfl) rfl #[.agg #[.int .i64 a0_0, .bool a0_1, .int .i64 a0_2, .int .i64 a0_3, .int .i64 a0_4, .int .i64 a0_5]] rfl ?_; (with_reducible refine (impl_open.calls k a0_0 a0_1 a0_2 a0_3 a0_4 a0_5 true _ A3.out).mono ?_); rintro e w9 ⟨rfl, hb⟩; refine ⟨_, rfl, ?_⟩; replace bf := nblk bf hb; replace bp := nblk bp hb; replace HB := nbs HB hb; (try clear hb); obtain ⟨dh, di, dj, dK, eo, ep⟩ := c6e bf; obtain ⟨dk, dl, dm, dL, er, es⟩ := z6_ bf; obtain ⟨gZ, g0, g1, g2, g3, g4⟩ := c6e bp; obtain ⟨g5, g6, g7, g8, g9, ha⟩ := z6_ bp))
  refine bodyPost_ret (results_cell_row rfl _ _ dP 27 #[.int .i64 a0_0, .bool a0_1, .int .i64 a0_2, .int .i64 a0_3, .int .i64 (Go.bits .and .i64 a0_4 (Go.bits .and .i64 a1 63)), .int .i64 a0_5] (0, 0) _ rfl (p6 bp (k1_ dn.out (nb bp))) Try.underlying27 rfl (by kernel_rfl)) rfl ?_; exact ⟨er_, nbe HB⟩
 ·replace c4 := Bool.eq_false_iff.mpr c4
  subst c4; have H1 : ((impl_Bare.f a0_0 a0_1 a0_2 a0_3 a0_4 a0_5).bind fun bc => (some (bc.1, bc.2.1, bc.2.2.1, bc.2.2.2.1, bc.2.2.2.2.1, bc.2.2.2.2.2))) = some (r1, r2, r3, r4, r5, r6) := by rw [if_neg (show ¬ (false = true) by decide)] at H; exact H
  clear H; have H := H1; clear H1; replace H := Option.bind_eq_some_iff.mp H; obtain ⟨⟨dR, dS, dT, dU, dV, dW⟩, A120, H⟩ := H; replace H : (some (dR, dS, dT, dU, dV, dW)) = some (r1, r2, r3, r4, r5, r6) := H; have A12 := Aside0.mk A120; clear A120; simp only [Option.some.injEq, Prod.mk.injEq] at H; obtain ⟨rfl, rfl, rfl, rfl, rfl, rfl⟩ := H
  go_enter Try.func11, Try.ntmps11
  go_wp2_with (first | ((with_reducible refine gate_dst (N := 2) rfl ?_); refine bxe 2 #[.int .i64 a0_0, .bool a0_1, .int .i64 a0_2, .int .i64 a0_3, .int .i64 a0_4, .int .i64 a0_5] 27 ?_; intro e9 hg bI hbox hb; have bf := hbox; have ga := nge HB hg; have gb := nge HB hg; replace HB := nbs HB hb; clear hb hbox hg) | ((with_reducible refine gate_dst (N := 4) rfl ?_); refine bxe 4 #[.int .i64 0, .bool false, .int .i64 0, .int .i64 0, .int .i64 0, .int .i64 0] 27 ?_; intro dP hg bQ hbox hb; have bp := hbox; have gc := nge HB hg; have gd := nge HB hg; have dQ := nlt bf hg; have dn := ngt bf hg; replace bf := nblk bf hb; replace HB := nbs HB hb; clear hb hbox hg; have hc := dQ.out; have hd := dn.out; obtain ⟨b5, b6, b7, em, e5, e6⟩ := c6e bf; obtain ⟨b8, b9, da, en, e7, e8⟩ := z6_ bf) | ((with_reducible refine gate_callee (f := 64) rfl ?_); refine goesM (some 6) rfl rfl Try.func64 (by kernel_rfl) rfl #[.agg #[.int .i64 a0_0, .bool a0_1, .int .i64 a0_2, .int .i64 a0_3, .int .i64 a0_4, .int .i64 a0_5]] rfl ?_; (with_reducible refine (impl_open.calls k a0_0 a0_1 a0_2 a0_3 a0_4 a0_5 false _ A3.out).mono ?_); rintro e dg ⟨rfl, hb⟩; refine ⟨_, rfl, ?_⟩; replace bf := nblk bf hb; replace bp := nblk bp hb; replace HB := nbs HB hb; (try clear hb); obtain ⟨dp, dq, dr, hf, hh, hj⟩ := c6e bf; obtain ⟨ds, dt, du, hl, hm, hn⟩ := z6_ bf) | ((with_reducible refine gate_callee (f := 48) rfl ?_); refine goesM (some 9) rfl rfl Try.func48 (by kernel_rfl) rfl #[.agg #[.int .i64 a0_0, .bool a0_1, .int .i64 a0_2, .int .i64 a0_3, .int .i64 a0_4, .int .i64 a0_5]] rfl ?_; (with_reducible refine (impl_Bare.calls a0_0 a0_1 a0_2 a0_3 a0_4 a0_5 dR dS dT dU dV dW _ A12.out).mono ?_); rintro e dv ⟨rfl, hb⟩; refine ⟨_, rfl, ?_⟩; replace bf := nblk bf hb; replace bp := nblk bp hb; replace HB := nbs HB hb; (try clear hb); obtain ⟨dw, dx, dy, ho, hp, hq⟩ := c6e bp; obtain ⟨dz, dA, dB, hr, hs, ht⟩ := z6_ bp))
  refine bodyPost_ret (results_cell_row rfl _ _ dP 27 #[.int .i64 dR, .bool dS, .int .i64 dT, .int .i64 dU, .int .i64 dV, .int .i64 dW] (0, 0) _ rfl (q6 bp) Try.underlying27 rfl (by kernel_rfl)) rfl ?_; exact ⟨er_, nbe HB⟩

/-! ### spec_DrawNarrow: function 12 -/
def spec_DrawNarrow.f (k : Nat) (l0 : List Int) : Option (Int × Bool × Int × Int × Int × Int × Int) := (spec_l4Draw.f k l0).bind fun bm => (some (bm.1, bm.2.1, bm.2.2.1, bm.2.2.2.1, bm.2.2.2.2.1, bm.2.2.2.2.2.1, bm.2.2.2.2.2.2))
theorem spec_DrawNarrow.mono : ∀ a0 k, LeO (spec_DrawNarrow.f k a0) (spec_DrawNarrow.f (k + 1) a0) := by
 intro a0 k
 unfold spec_DrawNarrow.f
 repeat' first
   | (with_reducible exact spec_l4Draw.mono _ _)
   | (with_reducible exact LeO.refl _)
   | (with_reducible exact LeO.none _)
   | (with_reducible refine LeO.ite ?_ ?_)
   | (with_reducible refine LeO.bind ?_ (fun _ => ?_))
   | exact spec_l4Draw.mono _ _
   | exact LeO.none _
   | refine LeO.ite ?_ ?_
   | refine LeO.bind ?_ (fun _ => ?_)
set_option maxHeartbeats 8000000 in
set_option maxRecDepth 100000 in
theorem spec_DrawNarrow.calls (k : Nat) (A0 : Option Addr) (c0 : Nat) (l0 : List Int) (r1 : Int) (r2 : Bool) (r3 : Int) (r4 : Int) (r5 : Int) (r6 : Int) (r7 : Int) (w : World) (hr0 : Kd.C (Kd.int .u8) w A0 l0.length l0) (hc0 : l0.length ≤ c0) (h : spec_DrawNarrow.f k l0 = some (r1, r2, r3, r4, r5, r6, r7)) :
  Calls Try.prog 12 #[.slice A0 l0.length c0] w fun e w' => e = .returned (.tuple #[.agg #[.int .i64 r1, .bool r2, .int .i64 r3, .int .i64 r4, .int .i64 r5, .int .i64 r6], .int .i64 r7]) ∧ Below w.heap.size w w' := by
 have hu27 := Try.underlying27; have gf := Aside0.mk hr0; have gg := Aside0.mk hc0; clear hr0 hc0; have HB := Aside0.mk (Below.refl w.heap.size w); have H : ((spec_l4Draw.f k l0).bind fun bm => (some (bm.1, bm.2.1, bm.2.2.1, bm.2.2.2.1, bm.2.2.2.2.1, bm.2.2.2.2.2.1, bm.2.2.2.2.2.2))) = some (r1, r2, r3, r4, r5, r6, r7) := h; clear h; replace H := Option.bind_eq_some_iff.mp H; obtain ⟨⟨dX, dY, dZ, d0, d1, d2, eA⟩, A20, H⟩ := H; replace H : (some (dX, dY, dZ, d0, d1, d2, eA)) = some (r1, r2, r3, r4, r5, r6, r7) := H; have A2 := Aside0.mk A20; clear A20; simp only [Option.some.injEq, Prod.mk.injEq] at H; obtain ⟨rfl, rfl, rfl, rfl, rfl, rfl, rfl⟩ := H
 go_enter Try.func12, Try.ntmps12
 go_wp2_with (first | ((with_reducible refine gate_dst (N := 2) rfl ?_); refine bxe 2 #[.int .i64 0, .bool false, .int .i64 0, .int .i64 0, .int .i64 0, .int .i64 0] 27 ?_; intro gh hg w3 hbox hb; have bz := hbox; have hu := nge HB hg; have hv := nge HB hg; replace HB := nbs HB hb; clear hb hbox hg) | ((with_reducible refine gate_callee (f := 63) rfl ?_); refine goesM (some 8) rfl rfl Try.func63 (by kernel_rfl) rfl #[.slice A0 l0.length c0] rfl ?_; (with_reducible refine (spec_l4Draw.calls k _ _ l0 dX dY dZ d0 d1 d2 eA _ ?side1 ?side2 A2.out).mono ?_); (case side1 => exact nCb gf HB); (case side2 => exact gg.out); rintro e w4 ⟨rfl, hb⟩; refine ⟨_, rfl, ?_⟩; replace bz := nblk bz hb; replace HB := nbs HB hb; (try clear hb)) | ((with_reducible refine gate_dst (N := 4) rfl ?_); refine bxe 4 #[.int .i64 0, .bool false, .int .i64 0, .int .i64 0, .int .i64 0, .int .i64 0] 27 ?_; intro hw hg w5 hbox hb; have eB := hbox; have hx := nge HB hg; have hy := nge HB hg; have eC := nlt bz hg; have gi := ngt bz hg; replace bz := nblk bz hb; replace HB := nbs HB hb; clear hb hbox hg; have hz := gi.out; have hA := eC.out; obtain ⟨eP, eQ, eR, eS, eT, eU⟩ := c6e eB; obtain ⟨eV, eW, eX, eY, eZ, e0⟩ := z6_ eB; obtain ⟨dC, dD, dE, dF, ew, ex⟩ := c6e bz; obtain ⟨dG, dH, dI, dJ, ey, ez⟩ := z6_ bz))
 refine bodyPost_ret (results_ct rfl _ _ gh 27 #[.int .i64 dX, .bool dY, .int .i64 dZ, .int .i64 d0, .int .i64 d1, .int .i64 d2] (0, 0) _ rfl (p6 bz (k6_ eC.out (nb bz))) Try.underlying27 rfl (by kernel_rfl)) rfl ?_; exact ⟨er_, nbe HB⟩

end Go.Proofs.Ytiliggbholjdjaa.PFnDerived
