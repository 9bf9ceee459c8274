-- Written by a program of this session (wip/patch.py turns a copy of the kit's print): the functions that the law reaches, and their walks.
import Derived.Test.YtpcladboobfkhaaPFnWorkx0
import Derived.Test.YtpcladboobfkhaaPFnWorkx2
import Derived.Test.YtpcladboobfkhaaCFnWork
import Derived.Test.YtpcladboobfkhaaEFnWork
namespace Go.Proofs.Ytpcladboobfkhaa.PFnWork
open Go.RowKit Go.Proofs.YtpcladboobfkhaaW.PrintWords Go.Proofs.YtpcladboobfkhaaW.PrintLast Go.Proofs.YtpcladboobfkhaaW.PrintMore Go.Proofs.YtpcladboobfkhaaW.Mine
attribute [local go_sem] dsc dhs dha ddr ddrN
attribute [local go_sem] max2_int min2_int max_two min_two max_three min_three max_four min_four   -- for this text's walks alone
set_option linter.unusedVariables false
set_option linter.unusedSimpArgs false

attribute [local go_sem high] eqA27
/-! ### impl_Plain: function 45 -/
def impl_Plain.f (a0 : Int) : Option (Int × Bool × Int × Int × Int × Int) := some (Go.bits .and .i64 a0 65535, false, 0, 0, 0, 0)
set_option maxHeartbeats 8000000 in
set_option maxRecDepth 100000 in
theorem impl_Plain.calls (a0 : Int) (r1 : Int) (r2 : Bool) (r3 : Int) (r4 : Int) (r5 : Int) (r6 : Int) (w : World) (h : impl_Plain.f a0 = some (r1, r2, r3, r4, r5, r6)) :
  Calls Try.prog 45 #[.int .i64 a0] w fun e w' => e = .returned (.agg #[.int .i64 r1, .bool r2, .int .i64 r3, .int .i64 r4, .int .i64 r5, .int .i64 r6]) ∧ Below w.heap.size w w' := by
 have hu29 := Try.underlying29; have H := h; clear h; unfold impl_Plain.f at H; (try dsimp only at H); simp only [Option.some.injEq, Prod.mk.injEq] at H; obtain ⟨rfl, rfl, rfl, rfl, rfl, rfl⟩ := H
 go_enter Try.func45, Try.ntmps45
 go_wp2
 refine bodyPost_ret (drc rfl _ _ rfl (by go_simp; rfl)) rfl ?_; exact ⟨rfl, dfi⟩
/-! ### impl_in: function 30 -/
def impl_in.f (a0 : Int) (a1 : Int) (a2 : Int) : Option (Bool) := if a0 ≥ a1 then (some (decide (a0 ≤ a2))) else (some false)
set_option maxHeartbeats 8000000 in
set_option maxRecDepth 100000 in
theorem impl_in.calls (a0 : Int) (a1 : Int) (a2 : Int) (r : Bool) (w : World) (h : impl_in.f a0 a1 a2 = some r) :
  Calls Try.prog 30 #[.int .i64 a0, .int .i64 a1, .int .i64 a2] w fun e w' => e = .returned (.bool r) ∧ Drawn0 w w' := by
 have H : (if a0 ≥ a1 then (some (decide (a0 ≤ a2))) else (some false)) = some r := h; clear h
 by_cases c4 : a0 ≥ a1
 ·rw [if_pos c4] at H
  have c4b0 : decide (a1 ≤ a0) = true := decide_eq_true c4; clear c4; obtain rfl := Option.some.inj H
  go_enter Try.func30, Try.ntmps30
  go_wp2
  go_ret
  exact ⟨by first | rfl | (simp; done) | (simp [*]; done), by repeat (first | exact Drawn0.refl _ | apply Drawn0.step)⟩
 ·rw [if_neg c4] at H
  have c4b0 : decide (a1 ≤ a0) = false := decide_eq_false c4; clear c4; obtain rfl := Option.some.inj H
  go_enter Try.func30, Try.ntmps30
  go_wp2
  go_ret
  exact ⟨by first | rfl | (simp; done) | (simp [*]; done), by repeat (first | exact Drawn0.refl _ | apply Drawn0.step)⟩

/-! ### impl_BoundsOk: function 70 -/
def impl_BoundsOk.f (a0 : Int) (a1 : Int) : Option (Bool) := (impl_in.f a0 0 a1).bind fun bH => (if bH = true then (some (decide (a1 ≤ 4096))) else (some false))
set_option maxHeartbeats 8000000 in
set_option maxRecDepth 100000 in
theorem impl_BoundsOk.calls (a0 : Int) (a1 : Int) (r : Bool) (w : World) (h : impl_BoundsOk.f a0 a1 = some r) :
  Calls Try.prog 70 #[.int .i64 a0, .int .i64 a1] w fun e w' => e = .returned (.bool r) ∧ Drawn0 w w' := by
 have H := h; clear h; unfold impl_BoundsOk.f at H; (try dsimp only at H); replace H := Option.bind_eq_some_iff.mp H; obtain ⟨bH, A30, H⟩ := H; (try dsimp only at H); have A3 := Aside0.mk A30; clear A30
 by_cases c4 : bH = true
 ·subst c4
  rw [if_pos rfl] at H; (try dsimp only at H); obtain rfl := Option.some.inj H
  go_enter Try.func70, Try.ntmps70
  go_wp2_with (first | ((with_reducible refine gate_callee (f := 30) rfl ?_); refine goesM (some 7) rfl rfl Try.func30 (by kernel_rfl) rfl #[.int .i64 a0, .int .i64 0, .int .i64 a1] rfl ?_; (with_reducible refine (impl_in.calls a0 0 a1 true _ A3.out).mono ?_); rintro e w' ⟨rfl, ⟨nd, rfl⟩⟩; refine ⟨_, rfl, ?_⟩))
  go_ret
  exact ⟨by first | rfl | (simp; done) | (simp [*]; done), by repeat (first | exact Drawn0.refl _ | apply Drawn0.step)⟩
 ·replace c4 := Bool.eq_false_iff.mpr c4
  subst c4; rw [if_neg (show ¬ (false = true) by decide)] at H; (try dsimp only at H); obtain rfl := Option.some.inj H
  go_enter Try.func70, Try.ntmps70
  go_wp2_with (first | ((with_reducible refine gate_callee (f := 30) rfl ?_); refine goesM (some 7) rfl rfl Try.func30 (by kernel_rfl) rfl #[.int .i64 a0, .int .i64 0, .int .i64 a1] rfl ?_; (with_reducible refine (impl_in.calls a0 0 a1 false _ A3.out).mono ?_); rintro e w' ⟨rfl, ⟨nd, rfl⟩⟩; refine ⟨_, rfl, ?_⟩))
  go_ret
  exact ⟨by first | rfl | (simp; done) | (simp [*]; done), by repeat (first | exact Drawn0.refl _ | apply Drawn0.step)⟩
/-! ### impl_Pack: function 83 -/
def impl_Pack.l0 : Nat → Int → Int → Int → Option (Int × Int × Int × Bool)
 | 0, _, _, _ => none
 | k + 1, x0, x1, bi => if bi < 7 then (if 0 ≤ bi then (if (shl .i64 1 bi) = 0 then (none) else (if (wrap64 (Int.tdiv x0 (shl .i64 1 bi))) ≤ 63 then (if (wrap64 (Int.tdiv (wrap64 ((wrap64 ((wrap64 (x1 - (wrap64 ((wrap64 (Int.tdiv x0 (shl .i64 1 bi))) * (shl .i64 1 bi))))) + (shl .i64 1 bi))) - 1)) (shl .i64 1 bi))) ≤ 63 then (some (bi, wrap64 (Int.tdiv x0 (shl .i64 1 bi)), wrap64 (Int.tdiv (wrap64 ((wrap64 ((wrap64 (x1 - (wrap64 ((wrap64 (Int.tdiv x0 (shl .i64 1 bi))) * (shl .i64 1 bi))))) + (shl .i64 1 bi))) - 1)) (shl .i64 1 bi)), true)) else (impl_Pack.l0 k x0 x1 (wrap64 (bi + 1)))) else (impl_Pack.l0 k x0 x1 (wrap64 (bi + 1))))) else (none)) else (some (0, 0, 0, false))
def impl_Pack.f (k : Nat) (a0 : Int) (a1 : Int) : Option (Int × Int × Int × Bool) := (impl_BoundsOk.f a0 a1).bind fun bI => (if bI = true then (impl_Pack.l0 k a0 a1 0) else (some (0, 0, 0, false)))
theorem impl_Pack.mono_l : ∀ k, (∀ y0 y1 y2, LeO (impl_Pack.l0 k y0 y1 y2) (impl_Pack.l0 (k + 1) y0 y1 y2))
 | 0 => fun _ _ _ r h => by simp [impl_Pack.l0] at h
 | k + 1 => by
  have ih0 := impl_Pack.mono_l k
  ·intro y0 y1 y2
   unfold impl_Pack.l0
   repeat' first
   | (with_reducible exact ih0 _ _ _)
   | (with_reducible exact LeO.refl _)
   | (with_reducible exact LeO.none _)
   | (with_reducible refine LeO.ite ?_ ?_)
   | (with_reducible refine LeO.bind ?_ (fun _ => ?_))
   | exact ih0 _ _ _
   | exact LeO.none _
   | refine LeO.ite ?_ ?_
   | refine LeO.bind ?_ (fun _ => ?_)
theorem impl_Pack.mono : ∀ a0 a1 k, LeO (impl_Pack.f k a0 a1) (impl_Pack.f (k + 1) a0 a1) := by
 intro a0 a1 k; have ih0 := impl_Pack.mono_l k
 unfold impl_Pack.f
 repeat' first
   | (with_reducible exact ih0 _ _ _)
   | (with_reducible exact LeO.refl _)
   | (with_reducible exact LeO.none _)
   | (with_reducible refine LeO.ite ?_ ?_)
   | (with_reducible refine LeO.bind ?_ (fun _ => ?_))
   | exact ih0 _ _ _
   | exact LeO.none _
   | refine LeO.ite ?_ ?_
   | refine LeO.bind ?_ (fun _ => ?_)
set_option maxHeartbeats 8000000 in
set_option maxRecDepth 100000 in
theorem impl_Pack.calls (k : Nat) (a0 : Int) (a1 : Int) (r1 : Int) (r2 : Int) (r3 : Int) (r4 : Bool) (w : World) (h : impl_Pack.f k a0 a1 = some (r1, r2, r3, r4)) :
  Calls Try.prog 83 #[.int .i64 a0, .int .i64 a1] w fun e w' => e = .returned (.tuple #[.agg #[.int .i64 r1, .int .i64 r2, .int .i64 r3], .bool r4]) ∧ Below w.heap.size w w' := by
 have hu97 := Try.underlying97; have HB := Aside0.mk (Below.refl w.heap.size w); have H : ((impl_BoundsOk.f a0 a1).bind fun bI => (if bI = true then (impl_Pack.l0 k a0 a1 0) else (some (0, 0, 0, false)))) = some (r1, r2, r3, r4) := h; clear h; replace H := Option.bind_eq_some_iff.mp H; obtain ⟨bI, A30, H⟩ := H; replace H : (if bI = true then (impl_Pack.l0 k a0 a1 0) else (some (0, 0, 0, false))) = some (r1, r2, r3, r4) := H; have A3 := Aside0.mk A30; clear A30
 by_cases c4 : bI = true
 ·subst c4
  have H1 : (impl_Pack.l0 k a0 a1 0) = some (r1, r2, r3, r4) := by rw [if_pos rfl] at H; exact H
  clear H; have H := H1; clear H1; have H' := Aside0.mk H; clear H
  go_enter Try.func83, Try.ntmps83
  go_wp2_with (first | ((with_reducible refine gate_dst (N := 4) rfl ?_); refine bxe 4 #[.int .i64 0, .int .i64 0, .int .i64 0] 97 ?_; intro bJ hg w5 hbox hb; have bj := hbox; have dY := nge HB hg; have dZ := nge HB hg; replace HB := nbs HB hb; clear hb hbox hg) | ((with_reducible refine gate_callee (f := 70) rfl ?_); refine goesM (some 12) rfl rfl Try.func70 (by kernel_rfl) rfl #[.int .i64 a0, .int .i64 a1] rfl ?_; (with_reducible refine (impl_BoundsOk.calls a0 a1 true _ A3.out).mono ?_); rintro e w' ⟨rfl, ⟨nd, rfl⟩⟩; refine ⟨_, rfl, ?_⟩))
  go_loopg [15] k (fun kq d0 w' => ∃ (bc : Int) (b0 : Int) (b1 : Int) (b2 : Int), d0 = .int .i64 bc ∧ Aside0 (impl_Pack.l0 kq a0 a1 bc = some (r1, r2, r3, r4)) ∧ Aside0 (kq ≤ k) ∧ Aside0 (w'.heap[bJ]? = some (.cells #[.int .i64 b0, .int .i64 b1, .int .i64 b2] 97 (0, 0))) ∧ Aside0 (Below w.heap.size w w'))
  case atStart => exact ⟨(0), (0), (0), (0), (by first | rfl | (simp; done) | (simp [*]; done)), H', ⟨Nat.le_refl _⟩, ⟨nb bj⟩, ⟨nbe HB⟩⟩
  case round =>
   clear H'; try clear p2
   try clear c4
   obtain ⟨bc, b0, b1, b2, rfl, HA, b3, bj, HB⟩ := hrel
   cases gk with
   | zero => exact absurd HA.out (by simp [impl_Pack.l0])
   | succ k1 =>
    have H := HA.out; clear HA; simp only [impl_Pack.l0] at H
    by_cases c6 : bc < 7
    ·rw [if_pos c6] at H
     have c6b0 : decide (bc < 7) = true := decide_eq_true c6; clear c6
     by_cases c7 : 0 ≤ bc
     ·rw [if_pos c7] at H
      have c7b0 := eq_true c7; have c7b1 : decide (0 ≤ bc) = true := decide_eq_true c7; clear c7; obtain ⟨ba, bW⟩ : ∃ j_ : Int, (shl .i64 1 bc) = j_ := ⟨_, rfl⟩; replace H : (if (ba) = 0 then (none) else (if (wrap64 (Int.tdiv a0 (ba))) ≤ 63 then (if (wrap64 (Int.tdiv (wrap64 ((wrap64 ((wrap64 (a1 - (wrap64 ((wrap64 (Int.tdiv a0 (ba))) * (ba))))) + (ba))) - 1)) (ba))) ≤ 63 then (some (bc, wrap64 (Int.tdiv a0 (ba)), wrap64 (Int.tdiv (wrap64 ((wrap64 ((wrap64 (a1 - (wrap64 ((wrap64 (Int.tdiv a0 (ba))) * (ba))))) + (ba))) - 1)) (ba)), true)) else (impl_Pack.l0 k1 a0 a1 (wrap64 (bc + 1)))) else (impl_Pack.l0 k1 a0 a1 (wrap64 (bc + 1))))) = some (r1, r2, r3, r4) := by first | (rw [bW] at H; exact H) | (simp only [bW] at H ⊢; exact H)
      have dl : (IntKind.i64.wrap (1 * 2 ^ min bc.toNat 64)) = ba := bW; have dm : bc ≤ 64 → (IntKind.i64.wrap (1 * 2 ^ bc.toNat)) = ba := shl_small bW; have eH : (IntKind.i64.wrap (2 ^ min bc.toNat 64)) = ba := by have h_ := dl; rw [Int.one_mul] at h_; exact h_
      have eI : bc ≤ 64 → (IntKind.i64.wrap (2 ^ bc.toNat)) = ba := fun hle_ => by have h_ := dm hle_; rw [Int.one_mul] at h_; exact h_
      have eJ : (wrap64 (1 * 2 ^ min bc.toNat 64)) = ba := (i64_w _).symm.trans dl; have eK : bc ≤ 64 → (wrap64 (1 * 2 ^ bc.toNat)) = ba := fun h_ => (i64_w _).symm.trans (dm h_)
      by_cases c9 : (ba) = 0
      ·rw [if_pos c9] at H
       exact absurd H (by simp)
      ·rw [if_neg c9] at H
       have c9b0 : ((ba) == 0) = false := beq_eq_false_iff_ne.mpr c9; have c9b1 : ((ba) != 0) = true := bne_iff_ne.mpr c9
       by_cases c10 : (wrap64 (Int.tdiv a0 (ba))) ≤ 63
       ·rw [if_pos c10] at H
        have c10b0 : decide ((wrap64 (Int.tdiv a0 (ba))) ≤ 63) = true := decide_eq_true c10; clear c10
        by_cases c11 : (wrap64 (Int.tdiv (wrap64 ((wrap64 ((wrap64 (a1 - (wrap64 ((wrap64 (Int.tdiv a0 (ba))) * (ba))))) + (ba))) - 1)) (ba))) ≤ 63
        ·rw [if_pos c11] at H
         have c11b0 : decide ((wrap64 (Int.tdiv (wrap64 ((wrap64 ((wrap64 (a1 - (wrap64 ((wrap64 (Int.tdiv a0 (ba))) * (ba))))) + (ba))) - 1)) (ba))) ≤ 63) = true := decide_eq_true c11; clear c11; simp only [Option.some.injEq, Prod.mk.injEq] at H; obtain ⟨rfl, rfl, rfl, rfl⟩ := H; obtain ⟨dn, dp, dq⟩ := c3e bj; obtain ⟨dr, ds, dt⟩ := z3_ bj; go_wp2; refine bodyPost_ret (results_ct rfl _ _ bJ 97 #[.int .i64 bc, .int .i64 (wrap64 (Int.tdiv a0 (ba))), .int .i64 (wrap64 (Int.tdiv (wrap64 ((wrap64 ((wrap64 (a1 - (wrap64 ((wrap64 (Int.tdiv a0 (ba))) * (ba))))) + (ba))) - 1)) (ba)))] (0, 0) _ rfl (q3 bj) Try.underlying97 rfl (by kernel_rfl)) rfl ?_; exact ⟨by first | rfl | (simp [errW_none, errW_some] <;> rfl) | (simp only [← bW]; first | rfl | (simp [errW_none, errW_some] <;> rfl)) | (simp [*, errW_none, errW_some] <;> rfl), nbe HB⟩
        ·rw [if_neg c11] at H
         have c11b0 : decide ((wrap64 (Int.tdiv (wrap64 ((wrap64 ((wrap64 (a1 - (wrap64 ((wrap64 (Int.tdiv a0 (ba))) * (ba))))) + (ba))) - 1)) (ba))) ≤ 63) = false := decide_eq_false c11; clear c11; have H' := Aside0.mk H; clear H; go_wp2
         go_roundg k1
         case measure => have := b3.out; omega
         case rel => exact ⟨(wrap64 (bc + 1)), (b0), (b1), (b2), (by first | rfl | (simp; done) | (simp [*]; done)), H', ⟨by have := b3.out; omega⟩, ⟨nb bj⟩, ⟨nbe HB⟩⟩
       ·rw [if_neg c10] at H
        have c10b0 : decide ((wrap64 (Int.tdiv a0 (ba))) ≤ 63) = false := decide_eq_false c10; clear c10; have H' := Aside0.mk H; clear H; go_wp2
        go_roundg k1
        case measure => have := b3.out; omega
        case rel => exact ⟨(wrap64 (bc + 1)), (b0), (b1), (b2), (by first | rfl | (simp; done) | (simp [*]; done)), H', ⟨by have := b3.out; omega⟩, ⟨nb bj⟩, ⟨nbe HB⟩⟩
     ·rw [if_neg c7] at H
      exact absurd H (by simp)
    ·rw [if_neg c6] at H
     have c6b0 : decide (bc < 7) = false := decide_eq_false c6; clear c6; simp only [Option.some.injEq, Prod.mk.injEq] at H; obtain ⟨rfl, rfl, rfl, rfl⟩ := H; obtain ⟨eL, eM, eN⟩ := c3e bj; obtain ⟨eO, eP, eQ⟩ := z3_ bj; go_wp2; refine bodyPost_ret (results_ct rfl _ _ bJ 97 #[.int .i64 0, .int .i64 0, .int .i64 0] (0, 0) _ rfl (q3 bj) Try.underlying97 rfl (by kernel_rfl)) rfl ?_; exact ⟨er_, nbe HB⟩
 ·replace c4 := Bool.eq_false_iff.mpr c4
  subst c4; have H1 : (some (0, 0, 0, false)) = some (r1, r2, r3, r4) := by rw [if_neg (show ¬ (false = true) by decide)] at H; exact H
  clear H; have H := H1; clear H1; simp only [Option.some.injEq, Prod.mk.injEq] at H; obtain ⟨rfl, rfl, rfl, rfl⟩ := H
  go_enter Try.func83, Try.ntmps83
  go_wp2_with (first | ((with_reducible refine gate_dst (N := 4) rfl ?_); refine bxe 4 #[.int .i64 0, .int .i64 0, .int .i64 0] 97 ?_; intro bJ hg bX hbox hb; have bj := hbox; have dY := nge HB hg; have dZ := nge HB hg; replace HB := nbs HB hb; clear hb hbox hg) | ((with_reducible refine gate_callee (f := 70) rfl ?_); refine goesM (some 12) rfl rfl Try.func70 (by kernel_rfl) rfl #[.int .i64 a0, .int .i64 a1] rfl ?_; (with_reducible refine (impl_BoundsOk.calls a0 a1 false _ A3.out).mono ?_); rintro e w' ⟨rfl, ⟨nd, rfl⟩⟩; refine ⟨_, rfl, ?_⟩; (try (rw [drewN_self bX]; generalize hq_ : World.drewN bX _ = bX; replace bj : Aside0 (bX.heap[bJ]? = some (.cells #[.int .i64 0, .int .i64 0, .int .i64 0] 97 (0, 0))) := ⟨by rw [← hq_]; exact (nb bj)⟩; replace HB : Aside0 (Below w.heap.size w bX) := ⟨by rw [← hq_]; exact (nbe HB)⟩; clear hq_)); obtain ⟨eR, eS, eT⟩ := c3e bj; obtain ⟨eU, eV, eW⟩ := z3_ bj))
  refine bodyPost_ret (results_ct rfl _ _ bJ 97 #[.int .i64 0, .int .i64 0, .int .i64 0] (0, 0) _ rfl (q3 bj) Try.underlying97 rfl (by kernel_rfl)) rfl ?_; exact ⟨er_, nbe HB⟩

/-! ### impl_Unpack: function 84 -/
def impl_Unpack.f (a0_0 : Int) (a0_1 : Int) (a0_2 : Int) : Option (Int × Int × Bool) := (impl_in.f a0_0 0 6).bind fun bK => (if bK = true then ((impl_in.f a0_1 0 63).bind fun bs => (if bs = true then ((impl_in.f a0_2 0 63).bind fun bk => (if bk = true then (if 0 ≤ a0_0 then (some (shl .i64 a0_1 a0_0, mn 4096 (shl .i64 (wrap64 (a0_1 + a0_2)) a0_0), true)) else (none)) else (some (0, 0, false)))) else (some (0, 0, false)))) else (some (0, 0, false)))
set_option maxHeartbeats 8000000 in
set_option maxRecDepth 100000 in
theorem impl_Unpack.calls (a0_0 : Int) (a0_1 : Int) (a0_2 : Int) (r1 : Int) (r2 : Int) (r3 : Bool) (w : World) (h : impl_Unpack.f a0_0 a0_1 a0_2 = some (r1, r2, r3)) :
  Calls Try.prog 84 #[.agg #[.int .i64 a0_0, .int .i64 a0_1, .int .i64 a0_2]] w fun e w' => e = .returned (.tuple #[.int .i64 r1, .int .i64 r2, .bool r3]) ∧ Below w.heap.size w w' := by
 have hu97 := Try.underlying97; have HB := Aside0.mk (Below.refl w.heap.size w); have H := h; clear h; unfold impl_Unpack.f at H; (try dsimp only at H); replace H := Option.bind_eq_some_iff.mp H; obtain ⟨bK, A20, H⟩ := H; (try dsimp only at H); have A2 := Aside0.mk A20; clear A20
 by_cases c3 : bK = true
 ·subst c3
  rw [if_pos rfl] at H; (try dsimp only at H); replace H := Option.bind_eq_some_iff.mp H; obtain ⟨bs, A40, H⟩ := H; (try dsimp only at H); have A4 := Aside0.mk A40; clear A40
  by_cases c5 : bs = true
  ·subst c5
   rw [if_pos rfl] at H; (try dsimp only at H); replace H := Option.bind_eq_some_iff.mp H; obtain ⟨bk, A60, H⟩ := H; (try dsimp only at H); have A6 := Aside0.mk A60; clear A60
   by_cases c7 : bk = true
   ·subst c7
    rw [if_pos rfl] at H; (try dsimp only at H)
    by_cases c8 : 0 ≤ a0_0
    ·rw [if_pos c8] at H
     have c8b0 := eq_true c8; have c8b1 : decide (0 ≤ a0_0) = true := decide_eq_true c8; clear c8; obtain ⟨bB, bu⟩ : ∃ j_ : Int, (shl .i64 a0_1 a0_0) = j_ := ⟨_, rfl⟩; replace H : (some (bB, mn 4096 (shl .i64 (wrap64 (a0_1 + a0_2)) a0_0), true)) = some (r1, r2, r3) := by first | (rw [bu] at H; exact H) | (simp only [bu] at H ⊢; exact H)
     (try rw [bu] at A2); (try rw [bu] at A4); (try rw [bu] at A6); have d1 : (IntKind.i64.wrap (a0_1 * 2 ^ min a0_0.toNat 64)) = bB := bu; have d2 : a0_0 ≤ 64 → (IntKind.i64.wrap (a0_1 * 2 ^ a0_0.toNat)) = bB := shl_small bu; have eX : (wrap64 (a0_1 * 2 ^ min a0_0.toNat 64)) = bB := (i64_w _).symm.trans d1; have eY : a0_0 ≤ 64 → (wrap64 (a0_1 * 2 ^ a0_0.toNat)) = bB := fun h_ => (i64_w _).symm.trans (d2 h_)
     have c10b0 := eq_true (of_decide_eq_true (by first | (with_reducible assumption) | assumption) : 0 ≤ a0_0); obtain ⟨bv, bw⟩ : ∃ j_ : Int, (shl .i64 (wrap64 (a0_1 + a0_2)) a0_0) = j_ := ⟨_, rfl⟩; replace H : (some (bB, mn 4096 (bv), true)) = some (r1, r2, r3) := by first | (rw [bw] at H; exact H) | (simp only [bw] at H ⊢; exact H)
     (try rw [bw] at A2); (try rw [bw] at A4); (try rw [bw] at A6); have d3 : (IntKind.i64.wrap ((wrap64 (a0_1 + a0_2)) * 2 ^ min a0_0.toNat 64)) = bv := bw; have d4 : a0_0 ≤ 64 → (IntKind.i64.wrap ((wrap64 (a0_1 + a0_2)) * 2 ^ a0_0.toNat)) = bv := shl_small bw; have eZ : (wrap64 ((wrap64 (a0_1 + a0_2)) * 2 ^ min a0_0.toNat 64)) = bv := (i64_w _).symm.trans d3; have e0 : a0_0 ≤ 64 → (wrap64 ((wrap64 (a0_1 + a0_2)) * 2 ^ a0_0.toNat)) = bv := fun h_ => (i64_w _).symm.trans (d4 h_)
     obtain ⟨du, bC⟩ : ∃ j_ : Int, (mn 4096 (bv)) = j_ := ⟨_, rfl⟩; replace H : (some (bB, du, true)) = some (r1, r2, r3) := by first | (rw [bC] at H; exact H) | (simp only [bC] at H ⊢; exact H)
     (try rw [bC] at A2); (try rw [bC] at A4); (try rw [bC] at A6); have e1 : (if (bv) < 4096 then (bv) else 4096) = du := bC; simp only [Option.some.injEq, Prod.mk.injEq] at H; obtain ⟨rfl, rfl, rfl⟩ := H
     go_enter Try.func84, Try.ntmps84
     go_wp2_with (first | ((with_reducible refine gate_dst (N := 1) rfl ?_); refine bxe 1 #[.int .i64 a0_0, .int .i64 a0_1, .int .i64 a0_2] 97 ?_; intro bo hg bL hbox hb; have bb := hbox; have bp := nge HB hg; have bq := nge HB hg; replace HB := nbs HB hb; clear hb hbox hg; obtain ⟨bM, bN, bO⟩ := c3e bb; obtain ⟨bP, bQ, bR⟩ := z3_ bb) | (go_at_call 30; (with_reducible refine (impl_in.calls a0_0 0 6 true _ A2.out).mono ?_); rintro e w' ⟨rfl, ⟨nd, rfl⟩⟩; (try first | exact ⟨rfl, _, World.drewN_drewN _ _ _⟩ | exact ⟨rfl, _, Eq.trans (World.drewN_drewN _ _ _) (congrArg (World.drewN _) (Nat.add_assoc _ _ _))⟩)) | (go_at_call 30; (with_reducible refine (impl_in.calls a0_1 0 63 true _ A4.out).mono ?_); rintro e w' ⟨rfl, ⟨nd, rfl⟩⟩; (try first | exact ⟨rfl, _, World.drewN_drewN _ _ _⟩ | exact ⟨rfl, _, Eq.trans (World.drewN_drewN _ _ _) (congrArg (World.drewN _) (Nat.add_assoc _ _ _))⟩)) | (go_at_call 30; (with_reducible refine (impl_in.calls a0_2 0 63 true _ A6.out).mono ?_); rintro e w' ⟨rfl, ⟨nd, rfl⟩⟩; (try first | exact ⟨rfl, _, World.drewN_drewN _ _ _⟩ | exact ⟨rfl, _, Eq.trans (World.drewN_drewN _ _ _) (congrArg (World.drewN _) (Nat.add_assoc _ _ _))⟩)))
     repeat (go_quiet (first | ((with_reducible refine gate_dst (N := 1) rfl ?_); refine bxe 1 #[.int .i64 a0_0, .int .i64 a0_1, .int .i64 a0_2] 97 ?_; intro bo hg bL hbox hb; have bb := hbox; have bp := nge HB hg; have bq := nge HB hg; replace HB := nbs HB hb; clear hb hbox hg; obtain ⟨bM, bN, bO⟩ := c3e bb; obtain ⟨bP, bQ, bR⟩ := z3_ bb) | (go_at_call 30; (with_reducible refine (impl_in.calls a0_0 0 6 true _ A2.out).mono ?_); rintro e w' ⟨rfl, ⟨nd, rfl⟩⟩; (try first | exact ⟨rfl, _, World.drewN_drewN _ _ _⟩ | exact ⟨rfl, _, Eq.trans (World.drewN_drewN _ _ _) (congrArg (World.drewN _) (Nat.add_assoc _ _ _))⟩)) | (go_at_call 30; (with_reducible refine (impl_in.calls a0_1 0 63 true _ A4.out).mono ?_); rintro e w' ⟨rfl, ⟨nd, rfl⟩⟩; (try first | exact ⟨rfl, _, World.drewN_drewN _ _ _⟩ | exact ⟨rfl, _, Eq.trans (World.drewN_drewN _ _ _) (congrArg (World.drewN _) (Nat.add_assoc _ _ _))⟩)) | (go_at_call 30; (with_reducible refine (impl_in.calls a0_2 0 63 true _ A6.out).mono ?_); rintro e w' ⟨rfl, ⟨nd, rfl⟩⟩; (try first | exact ⟨rfl, _, World.drewN_drewN _ _ _⟩ | exact ⟨rfl, _, Eq.trans (World.drewN_drewN _ _ _) (congrArg (World.drewN _) (Nat.add_assoc _ _ _))⟩))); try go_wp2_with (first | ((with_reducible refine gate_dst (N := 1) rfl ?_); refine bxe 1 #[.int .i64 a0_0, .int .i64 a0_1, .int .i64 a0_2] 97 ?_; intro bo hg bL hbox hb; have bb := hbox; have bp := nge HB hg; have bq := nge HB hg; replace HB := nbs HB hb; clear hb hbox hg; obtain ⟨bM, bN, bO⟩ := c3e bb; obtain ⟨bP, bQ, bR⟩ := z3_ bb) | (go_at_call 30; (with_reducible refine (impl_in.calls a0_0 0 6 true _ A2.out).mono ?_); rintro e w' ⟨rfl, ⟨nd, rfl⟩⟩; (try first | exact ⟨rfl, _, World.drewN_drewN _ _ _⟩ | exact ⟨rfl, _, Eq.trans (World.drewN_drewN _ _ _) (congrArg (World.drewN _) (Nat.add_assoc _ _ _))⟩)) | (go_at_call 30; (with_reducible refine (impl_in.calls a0_1 0 63 true _ A4.out).mono ?_); rintro e w' ⟨rfl, ⟨nd, rfl⟩⟩; (try first | exact ⟨rfl, _, World.drewN_drewN _ _ _⟩ | exact ⟨rfl, _, Eq.trans (World.drewN_drewN _ _ _) (congrArg (World.drewN _) (Nat.add_assoc _ _ _))⟩)) | (go_at_call 30; (with_reducible refine (impl_in.calls a0_2 0 63 true _ A6.out).mono ?_); rintro e w' ⟨rfl, ⟨nd, rfl⟩⟩; (try first | exact ⟨rfl, _, World.drewN_drewN _ _ _⟩ | exact ⟨rfl, _, Eq.trans (World.drewN_drewN _ _ _) (congrArg (World.drewN _) (Nat.add_assoc _ _ _))⟩))))
     go_ret3
     exact ⟨by first | rfl | (simp [errW_none, errW_some] <;> rfl) | (simp only [← bu, ← bw, ← bC]; first | rfl | (simp [errW_none, errW_some] <;> rfl)) | (simp [*, errW_none, errW_some] <;> rfl), nbe HB⟩
    ·rw [if_neg c8] at H
     exact absurd H (by simp)
   ·replace c7 := Bool.eq_false_iff.mpr c7
    subst c7; rw [if_neg (show ¬ (false = true) by decide)] at H; (try dsimp only at H); simp only [Option.some.injEq, Prod.mk.injEq] at H; obtain ⟨rfl, rfl, rfl⟩ := H
    go_enter Try.func84, Try.ntmps84
    go_wp2_with (first | ((with_reducible refine gate_dst (N := 1) rfl ?_); refine bxe 1 #[.int .i64 a0_0, .int .i64 a0_1, .int .i64 a0_2] 97 ?_; intro bo hg bY hbox hb; have bb := hbox; have bp := nge HB hg; have bq := nge HB hg; replace HB := nbs HB hb; clear hb hbox hg; obtain ⟨b4, b5, b6⟩ := c3e bb; obtain ⟨b7, b8, b9⟩ := z3_ bb) | (go_at_call 30; (with_reducible refine (impl_in.calls a0_0 0 6 true _ A2.out).mono ?_); rintro e w' ⟨rfl, ⟨nd, rfl⟩⟩; (try first | exact ⟨rfl, _, World.drewN_drewN _ _ _⟩ | exact ⟨rfl, _, Eq.trans (World.drewN_drewN _ _ _) (congrArg (World.drewN _) (Nat.add_assoc _ _ _))⟩)) | (go_at_call 30; (with_reducible refine (impl_in.calls a0_1 0 63 true _ A4.out).mono ?_); rintro e w' ⟨rfl, ⟨nd, rfl⟩⟩; (try first | exact ⟨rfl, _, World.drewN_drewN _ _ _⟩ | exact ⟨rfl, _, Eq.trans (World.drewN_drewN _ _ _) (congrArg (World.drewN _) (Nat.add_assoc _ _ _))⟩)) | (go_at_call 30; (with_reducible refine (impl_in.calls a0_2 0 63 false _ A6.out).mono ?_); rintro e w' ⟨rfl, ⟨nd, rfl⟩⟩; (try first | exact ⟨rfl, _, World.drewN_drewN _ _ _⟩ | exact ⟨rfl, _, Eq.trans (World.drewN_drewN _ _ _) (congrArg (World.drewN _) (Nat.add_assoc _ _ _))⟩)))
    repeat (go_quiet (first | ((with_reducible refine gate_dst (N := 1) rfl ?_); refine bxe 1 #[.int .i64 a0_0, .int .i64 a0_1, .int .i64 a0_2] 97 ?_; intro bo hg bY hbox hb; have bb := hbox; have bp := nge HB hg; have bq := nge HB hg; replace HB := nbs HB hb; clear hb hbox hg; obtain ⟨b4, b5, b6⟩ := c3e bb; obtain ⟨b7, b8, b9⟩ := z3_ bb) | (go_at_call 30; (with_reducible refine (impl_in.calls a0_0 0 6 true _ A2.out).mono ?_); rintro e w' ⟨rfl, ⟨nd, rfl⟩⟩; (try first | exact ⟨rfl, _, World.drewN_drewN _ _ _⟩ | exact ⟨rfl, _, Eq.trans (World.drewN_drewN _ _ _) (congrArg (World.drewN _) (Nat.add_assoc _ _ _))⟩)) | (go_at_call 30; (with_reducible refine (impl_in.calls a0_1 0 63 true _ A4.out).mono ?_); rintro e w' ⟨rfl, ⟨nd, rfl⟩⟩; (try first | exact ⟨rfl, _, World.drewN_drewN _ _ _⟩ | exact ⟨rfl, _, Eq.trans (World.drewN_drewN _ _ _) (congrArg (World.drewN _) (Nat.add_assoc _ _ _))⟩)) | (go_at_call 30; (with_reducible refine (impl_in.calls a0_2 0 63 false _ A6.out).mono ?_); rintro e w' ⟨rfl, ⟨nd, rfl⟩⟩; (try first | exact ⟨rfl, _, World.drewN_drewN _ _ _⟩ | exact ⟨rfl, _, Eq.trans (World.drewN_drewN _ _ _) (congrArg (World.drewN _) (Nat.add_assoc _ _ _))⟩))); try go_wp2_with (first | ((with_reducible refine gate_dst (N := 1) rfl ?_); refine bxe 1 #[.int .i64 a0_0, .int .i64 a0_1, .int .i64 a0_2] 97 ?_; intro bo hg bY hbox hb; have bb := hbox; have bp := nge HB hg; have bq := nge HB hg; replace HB := nbs HB hb; clear hb hbox hg; obtain ⟨b4, b5, b6⟩ := c3e bb; obtain ⟨b7, b8, b9⟩ := z3_ bb) | (go_at_call 30; (with_reducible refine (impl_in.calls a0_0 0 6 true _ A2.out).mono ?_); rintro e w' ⟨rfl, ⟨nd, rfl⟩⟩; (try first | exact ⟨rfl, _, World.drewN_drewN _ _ _⟩ | exact ⟨rfl, _, Eq.trans (World.drewN_drewN _ _ _) (congrArg (World.drewN _) (Nat.add_assoc _ _ _))⟩)) | (go_at_call 30; (with_reducible refine (impl_in.calls a0_1 0 63 true _ A4.out).mono ?_); rintro e w' ⟨rfl, ⟨nd, rfl⟩⟩; (try first | exact ⟨rfl, _, World.drewN_drewN _ _ _⟩ | exact ⟨rfl, _, Eq.trans (World.drewN_drewN _ _ _) (congrArg (World.drewN _) (Nat.add_assoc _ _ _))⟩)) | (go_at_call 30; (with_reducible refine (impl_in.calls a0_2 0 63 false _ A6.out).mono ?_); rintro e w' ⟨rfl, ⟨nd, rfl⟩⟩; (try first | exact ⟨rfl, _, World.drewN_drewN _ _ _⟩ | exact ⟨rfl, _, Eq.trans (World.drewN_drewN _ _ _) (congrArg (World.drewN _) (Nat.add_assoc _ _ _))⟩))))
    go_ret3
    exact ⟨er_, nbe HB⟩
  ·replace c5 := Bool.eq_false_iff.mpr c5
   subst c5; rw [if_neg (show ¬ (false = true) by decide)] at H; (try dsimp only at H); simp only [Option.some.injEq, Prod.mk.injEq] at H; obtain ⟨rfl, rfl, rfl⟩ := H
   go_enter Try.func84, Try.ntmps84
   go_wp2_with (first | ((with_reducible refine gate_dst (N := 1) rfl ?_); refine bxe 1 #[.int .i64 a0_0, .int .i64 a0_1, .int .i64 a0_2] 97 ?_; intro bo hg db hbox hb; have bb := hbox; have bp := nge HB hg; have bq := nge HB hg; replace HB := nbs HB hb; clear hb hbox hg; obtain ⟨dv, dw, dx⟩ := c3e bb; obtain ⟨dy, dz, dA⟩ := z3_ bb) | (go_at_call 30; (with_reducible refine (impl_in.calls a0_0 0 6 true _ A2.out).mono ?_); rintro e w' ⟨rfl, ⟨nd, rfl⟩⟩; (try first | exact ⟨rfl, _, World.drewN_drewN _ _ _⟩ | exact ⟨rfl, _, Eq.trans (World.drewN_drewN _ _ _) (congrArg (World.drewN _) (Nat.add_assoc _ _ _))⟩)) | (go_at_call 30; (with_reducible refine (impl_in.calls a0_1 0 63 false _ A4.out).mono ?_); rintro e w' ⟨rfl, ⟨nd, rfl⟩⟩; (try first | exact ⟨rfl, _, World.drewN_drewN _ _ _⟩ | exact ⟨rfl, _, Eq.trans (World.drewN_drewN _ _ _) (congrArg (World.drewN _) (Nat.add_assoc _ _ _))⟩)))
   repeat (go_quiet (first | ((with_reducible refine gate_dst (N := 1) rfl ?_); refine bxe 1 #[.int .i64 a0_0, .int .i64 a0_1, .int .i64 a0_2] 97 ?_; intro bo hg db hbox hb; have bb := hbox; have bp := nge HB hg; have bq := nge HB hg; replace HB := nbs HB hb; clear hb hbox hg; obtain ⟨dv, dw, dx⟩ := c3e bb; obtain ⟨dy, dz, dA⟩ := z3_ bb) | (go_at_call 30; (with_reducible refine (impl_in.calls a0_0 0 6 true _ A2.out).mono ?_); rintro e w' ⟨rfl, ⟨nd, rfl⟩⟩; (try first | exact ⟨rfl, _, World.drewN_drewN _ _ _⟩ | exact ⟨rfl, _, Eq.trans (World.drewN_drewN _ _ _) (congrArg (World.drewN _) (Nat.add_assoc _ _ _))⟩)) | (go_at_call 30; (with_reducible refine (impl_in.calls a0_1 0 63 false _ A4.out).mono ?_); rintro e w' ⟨rfl, ⟨nd, rfl⟩⟩; (try first | exact ⟨rfl, _, World.drewN_drewN _ _ _⟩ | exact ⟨rfl, _, Eq.trans (World.drewN_drewN _ _ _) (congrArg (World.drewN _) (Nat.add_assoc _ _ _))⟩))); try go_wp2_with (first | ((with_reducible refine gate_dst (N := 1) rfl ?_); refine bxe 1 #[.int .i64 a0_0, .int .i64 a0_1, .int .i64 a0_2] 97 ?_; intro bo hg db hbox hb; have bb := hbox; have bp := nge HB hg; have bq := nge HB hg; replace HB := nbs HB hb; clear hb hbox hg; obtain ⟨dv, dw, dx⟩ := c3e bb; obtain ⟨dy, dz, dA⟩ := z3_ bb) | (go_at_call 30; (with_reducible refine (impl_in.calls a0_0 0 6 true _ A2.out).mono ?_); rintro e w' ⟨rfl, ⟨nd, rfl⟩⟩; (try first | exact ⟨rfl, _, World.drewN_drewN _ _ _⟩ | exact ⟨rfl, _, Eq.trans (World.drewN_drewN _ _ _) (congrArg (World.drewN _) (Nat.add_assoc _ _ _))⟩)) | (go_at_call 30; (with_reducible refine (impl_in.calls a0_1 0 63 false _ A4.out).mono ?_); rintro e w' ⟨rfl, ⟨nd, rfl⟩⟩; (try first | exact ⟨rfl, _, World.drewN_drewN _ _ _⟩ | exact ⟨rfl, _, Eq.trans (World.drewN_drewN _ _ _) (congrArg (World.drewN _) (Nat.add_assoc _ _ _))⟩))))
   go_ret3
   exact ⟨er_, nbe HB⟩
 ·replace c3 := Bool.eq_false_iff.mpr c3
  subst c3; rw [if_neg (show ¬ (false = true) by decide)] at H; (try dsimp only at H); simp only [Option.some.injEq, Prod.mk.injEq] at H; obtain ⟨rfl, rfl, rfl⟩ := H
  go_enter Try.func84, Try.ntmps84
  go_wp2_with (first | ((with_reducible refine gate_dst (N := 1) rfl ?_); refine bxe 1 #[.int .i64 a0_0, .int .i64 a0_1, .int .i64 a0_2] 97 ?_; intro bo hg dB hbox hb; have bb := hbox; have bp := nge HB hg; have bq := nge HB hg; replace HB := nbs HB hb; clear hb hbox hg; obtain ⟨dC, dD, dE⟩ := c3e bb; obtain ⟨dF, dG, dH⟩ := z3_ bb) | (go_at_call 30; (with_reducible refine (impl_in.calls a0_0 0 6 false _ A2.out).mono ?_); rintro e w' ⟨rfl, ⟨nd, rfl⟩⟩; (try first | exact ⟨rfl, _, World.drewN_drewN _ _ _⟩ | exact ⟨rfl, _, Eq.trans (World.drewN_drewN _ _ _) (congrArg (World.drewN _) (Nat.add_assoc _ _ _))⟩)))
  repeat (go_quiet (first | ((with_reducible refine gate_dst (N := 1) rfl ?_); refine bxe 1 #[.int .i64 a0_0, .int .i64 a0_1, .int .i64 a0_2] 97 ?_; intro bo hg dB hbox hb; have bb := hbox; have bp := nge HB hg; have bq := nge HB hg; replace HB := nbs HB hb; clear hb hbox hg; obtain ⟨dC, dD, dE⟩ := c3e bb; obtain ⟨dF, dG, dH⟩ := z3_ bb) | (go_at_call 30; (with_reducible refine (impl_in.calls a0_0 0 6 false _ A2.out).mono ?_); rintro e w' ⟨rfl, ⟨nd, rfl⟩⟩; (try first | exact ⟨rfl, _, World.drewN_drewN _ _ _⟩ | exact ⟨rfl, _, Eq.trans (World.drewN_drewN _ _ _) (congrArg (World.drewN _) (Nat.add_assoc _ _ _))⟩))); try go_wp2_with (first | ((with_reducible refine gate_dst (N := 1) rfl ?_); refine bxe 1 #[.int .i64 a0_0, .int .i64 a0_1, .int .i64 a0_2] 97 ?_; intro bo hg dB hbox hb; have bb := hbox; have bp := nge HB hg; have bq := nge HB hg; replace HB := nbs HB hb; clear hb hbox hg; obtain ⟨dC, dD, dE⟩ := c3e bb; obtain ⟨dF, dG, dH⟩ := z3_ bb) | (go_at_call 30; (with_reducible refine (impl_in.calls a0_0 0 6 false _ A2.out).mono ?_); rintro e w' ⟨rfl, ⟨nd, rfl⟩⟩; (try first | exact ⟨rfl, _, World.drewN_drewN _ _ _⟩ | exact ⟨rfl, _, Eq.trans (World.drewN_drewN _ _ _) (congrArg (World.drewN _) (Nat.add_assoc _ _ _))⟩))))
  go_ret3
  exact ⟨er_, nbe HB⟩
/-! ### impl_Wide: function 71 -/
def impl_Wide.f (k : Nat) (a0 : Int) (a1 : Int) : Option (Int × Int) := (impl_BoundsOk.f a0 a1).bind fun bS => (if bS = true then ((impl_Pack.f k a0 a1).bind fun bd => (if bd.2.2.2 = true then ((impl_Unpack.f bd.1 bd.2.1 bd.2.2.1).bind fun bh => (some (bh.1, bh.2.1))) else (some (0, 4096)))) else (some (0, 0)))
theorem impl_Wide.mono : ∀ a0 a1 k, LeO (impl_Wide.f k a0 a1) (impl_Wide.f (k + 1) a0 a1) := by
 intro a0 a1 k
 unfold impl_Wide.f
 repeat' first
   | (with_reducible exact impl_Pack.mono _ _ _)
   | (with_reducible exact LeO.refl _)
   | (with_reducible exact LeO.none _)
   | (with_reducible refine LeO.ite ?_ ?_)
   | (with_reducible refine LeO.bind ?_ (fun _ => ?_))
   | exact impl_Pack.mono _ _ _
   | exact LeO.none _
   | refine LeO.ite ?_ ?_
   | refine LeO.bind ?_ (fun _ => ?_)
set_option maxHeartbeats 8000000 in
set_option maxRecDepth 100000 in
theorem impl_Wide.calls (k : Nat) (a0 : Int) (a1 : Int) (r1 : Int) (r2 : Int) (w : World) (h : impl_Wide.f k a0 a1 = some (r1, r2)) :
  Calls Try.prog 71 #[.int .i64 a0, .int .i64 a1] w fun e w' => e = .returned (.tuple #[.int .i64 r1, .int .i64 r2]) ∧ Below w.heap.size w w' := by
 have hu97 := Try.underlying97; have H := h; clear h; unfold impl_Wide.f at H; (try dsimp only at H); replace H := Option.bind_eq_some_iff.mp H; obtain ⟨bS, A30, H⟩ := H; (try dsimp only at H); have A3 := Aside0.mk A30; clear A30
 by_cases c4 : bS = true
 ·subst c4
  rw [if_pos rfl] at H; (try dsimp only at H); replace H := Option.bind_eq_some_iff.mp H; obtain ⟨⟨bD, bE, bF, dI⟩, A50, H⟩ := H; (try dsimp only at H); have A5 := Aside0.mk A50; clear A50
  by_cases c6 : dI = true
  ·subst c6
   rw [if_pos rfl] at H; (try dsimp only at H); replace H := Option.bind_eq_some_iff.mp H; obtain ⟨⟨dJ, dK, d5⟩, A70, H⟩ := H; (try dsimp only at H); have A7 := Aside0.mk A70; clear A70; simp only [Option.some.injEq, Prod.mk.injEq] at H; obtain ⟨rfl, rfl⟩ := H
   go_enter Try.func71, Try.ntmps71
   go_wp2_with (first | (go_at_call 70; (with_reducible refine (impl_BoundsOk.calls (h := A3.out) (w := _)).mono ?_); rintro e w' ⟨rfl, ⟨nd_, rfl⟩⟩) | (go_at_call 83; (with_reducible refine dmn (impl_Pack.calls (h := A5.out) (w := _)) ?_); intro x1 hb1 hc; skip) | (go_at_call 84; (with_reducible refine dmn (impl_Unpack.calls (h := A7.out) (w := _)) ?_); intro x2 hb2 hc; have hx1 := dsz (n := x1.heap.size + 1) hb2; have z := dl1 hx1))
   go_ret2; exact ⟨er_, dfi⟩
  ·replace c6 := Bool.eq_false_iff.mpr c6
   subst c6; rw [if_neg (show ¬ (false = true) by decide)] at H; (try dsimp only at H); simp only [Option.some.injEq, Prod.mk.injEq] at H; obtain ⟨rfl, rfl⟩ := H
   go_enter Try.func71, Try.ntmps71
   go_wp2_with (first | (go_at_call 70; (with_reducible refine (impl_BoundsOk.calls (h := A3.out) (w := _)).mono ?_); rintro e w' ⟨rfl, ⟨nd_, rfl⟩⟩) | (go_at_call 83; (with_reducible refine dmn (impl_Pack.calls (h := A5.out) (w := _)) ?_); intro x1 hb1 hc; skip))
   go_ret2; exact ⟨er_, dfi⟩
 ·replace c4 := Bool.eq_false_iff.mpr c4
  subst c4; rw [if_neg (show ¬ (false = true) by decide)] at H; (try dsimp only at H); simp only [Option.some.injEq, Prod.mk.injEq] at H; obtain ⟨rfl, rfl⟩ := H
  go_enter Try.func71, Try.ntmps71
  go_wp2_with (first | (go_at_call 70; (with_reducible refine (impl_BoundsOk.calls (h := A3.out) (w := _)).mono ?_); rintro e w' ⟨rfl, ⟨nd_, rfl⟩⟩))
  go_ret2; exact ⟨er_, dfi⟩
/-! ### impl_Exact: function 81 -/
def impl_Exact.f (k : Nat) (a0 : Int) (a1 : Int) : Option (Bool) := (impl_Wide.f k a0 a1).bind fun bZ => ((impl_BoundsOk.f a0 a1).bind fun bx => (if bx = true then (if bZ.1 = a0 then (some (bZ.2 == a1)) else (some false)) else (some false)))
theorem impl_Exact.mono : ∀ a0 a1 k, LeO (impl_Exact.f k a0 a1) (impl_Exact.f (k + 1) a0 a1) := by
 intro a0 a1 k
 unfold impl_Exact.f
 repeat' first
   | (with_reducible exact impl_Wide.mono _ _ _)
   | (with_reducible exact LeO.refl _)
   | (with_reducible exact LeO.none _)
   | (with_reducible refine LeO.ite ?_ ?_)
   | (with_reducible refine LeO.bind ?_ (fun _ => ?_))
   | exact impl_Wide.mono _ _ _
   | exact LeO.none _
   | refine LeO.ite ?_ ?_
   | refine LeO.bind ?_ (fun _ => ?_)
set_option maxHeartbeats 8000000 in
set_option maxRecDepth 100000 in
theorem impl_Exact.calls (k : Nat) (a0 : Int) (a1 : Int) (r : Bool) (w : World) (h : impl_Exact.f k a0 a1 = some r) :
  Calls Try.prog 81 #[.int .i64 a0, .int .i64 a1] w fun e w' => e = .returned (.bool r) ∧ Below w.heap.size w w' := by
 have H := h; clear h; unfold impl_Exact.f at H; (try dsimp only at H); replace H := Option.bind_eq_some_iff.mp H; obtain ⟨⟨br, bT⟩, A30, H⟩ := H; (try dsimp only at H); have A3 := Aside0.mk A30; clear A30; replace H := Option.bind_eq_some_iff.mp H; obtain ⟨bx, A40, H⟩ := H; (try dsimp only at H); have A4 := Aside0.mk A40; clear A40
 by_cases c5 : bx = true
 ·subst c5
  rw [if_pos rfl] at H; (try dsimp only at H)
  by_cases c6 : br = a0
  ·rw [if_pos c6] at H
   have c6b0 : (br == a0) = true := beq_iff_eq.mpr c6; have c6b1 : (br != a0) = false := bne_eq_false_iff_eq.mpr c6; clear c6; obtain rfl := Option.some.inj H
   go_enter Try.func81, Try.ntmps81
   go_wp2_with (first | (go_at_call 71; (with_reducible refine dmn (impl_Wide.calls (h := A3.out) (w := _)) ?_); intro x1 hb1 hc; skip) | (go_at_call 70; (with_reducible refine (impl_BoundsOk.calls (h := A4.out) (w := _)).mono ?_); rintro e w' ⟨rfl, ⟨nd_, rfl⟩⟩))
   go_ret; exact ⟨er_, dfi⟩
  ·rw [if_neg c6] at H
   have c6b0 : (br == a0) = false := beq_eq_false_iff_ne.mpr c6; have c6b1 : (br != a0) = true := bne_iff_ne.mpr c6; obtain rfl := Option.some.inj H
   go_enter Try.func81, Try.ntmps81
   go_wp2_with (first | (go_at_call 71; (with_reducible refine dmn (impl_Wide.calls (h := A3.out) (w := _)) ?_); intro x1 hb1 hc; skip) | (go_at_call 70; (with_reducible refine (impl_BoundsOk.calls (h := A4.out) (w := _)).mono ?_); rintro e w' ⟨rfl, ⟨nd_, rfl⟩⟩))
   go_ret; exact ⟨er_, dfi⟩
 ·replace c5 := Bool.eq_false_iff.mpr c5
  subst c5; rw [if_neg (show ¬ (false = true) by decide)] at H; (try dsimp only at H); obtain rfl := Option.some.inj H
  go_enter Try.func81, Try.ntmps81
  go_wp2_with (first | (go_at_call 71; (with_reducible refine dmn (impl_Wide.calls (h := A3.out) (w := _)) ?_); intro x1 hb1 hc; skip) | (go_at_call 70; (with_reducible refine (impl_BoundsOk.calls (h := A4.out) (w := _)).mono ?_); rintro e w' ⟨rfl, ⟨nd_, rfl⟩⟩))
  go_ret; exact ⟨er_, dfi⟩
/-! ### impl_KeyOk: function 66 -/
def impl_KeyOk.f (k : Nat) (a0_0 : Int) (a0_1 : Int) (a0_2 : Int) (a0_3 : Int) : Option (Bool) := (impl_Exact.f k a0_0 a0_1).bind fun bU => (if bU = true then ((impl_in.f a0_2 0 63).bind fun bt => (if bt = true then ((impl_in.f a0_3 0 7).bind fun bl => (some bl)) else (some false))) else (some false))
theorem impl_KeyOk.mono : ∀ a0 a1 a2 a3 k, LeO (impl_KeyOk.f k a0 a1 a2 a3) (impl_KeyOk.f (k + 1) a0 a1 a2 a3) := by
 intro a0 a1 a2 a3 k
 unfold impl_KeyOk.f
 repeat' first
   | (with_reducible exact impl_Exact.mono _ _ _)
   | (with_reducible exact LeO.refl _)
   | (with_reducible exact LeO.none _)
   | (with_reducible refine LeO.ite ?_ ?_)
   | (with_reducible refine LeO.bind ?_ (fun _ => ?_))
   | exact impl_Exact.mono _ _ _
   | exact LeO.none _
   | refine LeO.ite ?_ ?_
   | refine LeO.bind ?_ (fun _ => ?_)
set_option maxHeartbeats 8000000 in
set_option maxRecDepth 100000 in
theorem impl_KeyOk.calls (k : Nat) (a0_0 : Int) (a0_1 : Int) (a0_2 : Int) (a0_3 : Int) (r : Bool) (w : World) (h : impl_KeyOk.f k a0_0 a0_1 a0_2 a0_3 = some r) :
  Calls Try.prog 66 #[.agg #[.int .i64 a0_0, .int .i64 a0_1, .int .i64 a0_2, .int .i64 a0_3]] w fun e w' => e = .returned (.bool r) ∧ Below w.heap.size w w' := by
 have hu27 := Try.underlying27; have H := h; clear h; unfold impl_KeyOk.f at H; (try dsimp only at H); replace H := Option.bind_eq_some_iff.mp H; obtain ⟨bU, A20, H⟩ := H; (try dsimp only at H); have A2 := Aside0.mk A20; clear A20
 by_cases c3 : bU = true
 ·subst c3
  rw [if_pos rfl] at H; (try dsimp only at H); replace H := Option.bind_eq_some_iff.mp H; obtain ⟨bt, A40, H⟩ := H; (try dsimp only at H); have A4 := Aside0.mk A40; clear A40
  by_cases c5 : bt = true
  ·subst c5
   rw [if_pos rfl] at H; (try dsimp only at H); replace H := Option.bind_eq_some_iff.mp H; obtain ⟨bl, A60, H⟩ := H; (try dsimp only at H); have A6 := Aside0.mk A60; clear A60; obtain rfl := Option.some.inj H
   go_enter Try.func66, Try.ntmps66
   go_wp2_with (first | (go_at_call 81; (with_reducible refine dmn (impl_Exact.calls (h := A2.out) (w := _)) ?_); intro x1 hb1 hc; have hw := dsz (n := w.heap.size + 1) hb1; have z := dl1 hw) | (go_at_call 30; (with_reducible refine (impl_in.calls (h := A4.out) (w := _)).mono ?_); rintro e w' ⟨rfl, ⟨nd_, rfl⟩⟩) | (go_at_call 30; (with_reducible refine (impl_in.calls (h := A6.out) (w := _)).mono ?_); rintro e w' ⟨rfl, ⟨nd_, rfl⟩⟩))
   go_ret; exact ⟨er_, dfi⟩
  ·replace c5 := Bool.eq_false_iff.mpr c5
   subst c5; rw [if_neg (show ¬ (false = true) by decide)] at H; (try dsimp only at H); obtain rfl := Option.some.inj H
   go_enter Try.func66, Try.ntmps66
   go_wp2_with (first | (go_at_call 81; (with_reducible refine dmn (impl_Exact.calls (h := A2.out) (w := _)) ?_); intro x1 hb1 hc; have hw := dsz (n := w.heap.size + 1) hb1; have z := dl1 hw) | (go_at_call 30; (with_reducible refine (impl_in.calls (h := A4.out) (w := _)).mono ?_); rintro e w' ⟨rfl, ⟨nd_, rfl⟩⟩))
   go_ret; exact ⟨er_, dfi⟩
 ·replace c3 := Bool.eq_false_iff.mpr c3
  subst c3; rw [if_neg (show ¬ (false = true) by decide)] at H; (try dsimp only at H); obtain rfl := Option.some.inj H
  go_enter Try.func66, Try.ntmps66
  go_wp2_with (first | (go_at_call 81; (with_reducible refine dmn (impl_Exact.calls (h := A2.out) (w := _)) ?_); intro x1 hb1 hc; have hw := dsz (n := w.heap.size + 1) hb1; have z := dl1 hw))
  go_ret; exact ⟨er_, dfi⟩
/-! ### impl_WordOk: function 47 -/
def impl_WordOk.f (k : Nat) (a0_0 : Int) (a0_1 : Bool) (a0_2 : Int) (a0_3 : Int) (a0_4 : Int) (a0_5 : Int) : Option (Bool) := if a0_1 = true then ((impl_in.f a0_0 0 65535).bind fun bz => (if bz = true then ((impl_KeyOk.f k a0_2 a0_3 a0_4 a0_5).bind fun bn => (some bn)) else (some false))) else ((impl_in.f a0_0 0 65535).bind fun bA => (if bA = true then (some (a0_2 == 0 && (a0_3 == 0 && (a0_4 == 0 && (a0_5 == 0))))) else (some false)))
theorem impl_WordOk.mono : ∀ a0 a1 a2 a3 a4 a5 k, LeO (impl_WordOk.f k a0 a1 a2 a3 a4 a5) (impl_WordOk.f (k + 1) a0 a1 a2 a3 a4 a5) := by
 intro a0 a1 a2 a3 a4 a5 k
 unfold impl_WordOk.f
 repeat' first
   | (with_reducible exact impl_KeyOk.mono _ _ _ _ _)
   | (with_reducible exact LeO.refl _)
   | (with_reducible exact LeO.none _)
   | (with_reducible refine LeO.ite ?_ ?_)
   | (with_reducible refine LeO.bind ?_ (fun _ => ?_))
   | exact impl_KeyOk.mono _ _ _ _ _
   | exact LeO.none _
   | refine LeO.ite ?_ ?_
   | refine LeO.bind ?_ (fun _ => ?_)
set_option maxHeartbeats 8000000 in
set_option maxRecDepth 100000 in
theorem impl_WordOk.calls (k : Nat) (a0_0 : Int) (a0_1 : Bool) (a0_2 : Int) (a0_3 : Int) (a0_4 : Int) (a0_5 : Int) (r : Bool) (w : World) (h : impl_WordOk.f k a0_0 a0_1 a0_2 a0_3 a0_4 a0_5 = some r) :
  Calls Try.prog 47 #[.agg #[.int .i64 a0_0, .bool a0_1, .int .i64 a0_2, .int .i64 a0_3, .int .i64 a0_4, .int .i64 a0_5]] w fun e w' => e = .returned (.bool r) ∧ Below w.heap.size w w' := by
 have hu29 := Try.underlying29; have hu27 := Try.underlying27; have H : (if a0_1 = true then ((impl_in.f a0_0 0 65535).bind fun bz => (if bz = true then ((impl_KeyOk.f k a0_2 a0_3 a0_4 a0_5).bind fun bn => (some bn)) else (some false))) else ((impl_in.f a0_0 0 65535).bind fun bA => (if bA = true then (some (a0_2 == 0 && (a0_3 == 0 && (a0_4 == 0 && (a0_5 == 0))))) else (some false)))) = some r := h; clear h
 by_cases c2 : a0_1 = true
 ·subst c2
  rw [if_pos rfl] at H; (try dsimp only at H); replace H := Option.bind_eq_some_iff.mp H; obtain ⟨bz, A30, H⟩ := H; (try dsimp only at H); have A3 := Aside0.mk A30; clear A30
  by_cases c4 : bz = true
  ·subst c4
   rw [if_pos rfl] at H; (try dsimp only at H); replace H := Option.bind_eq_some_iff.mp H; obtain ⟨bn, A50, H⟩ := H; (try dsimp only at H); have A5 := Aside0.mk A50; clear A50; obtain rfl := Option.some.inj H
   go_enter Try.func47, Try.ntmps47
   go_wp2_with (first | (go_at_call 30; (with_reducible refine (impl_in.calls (h := A3.out) (w := _)).mono ?_); rintro e w' ⟨rfl, ⟨nd_, rfl⟩⟩) | (go_at_call 66; (with_reducible refine dmn (impl_KeyOk.calls (h := A5.out) (w := _)) ?_); intro x1 hb1 hc; have hw := dsz (n := w.heap.size + 1) hb1; have z := dl1 hw))
   go_ret; exact ⟨er_, dfi⟩
  ·replace c4 := Bool.eq_false_iff.mpr c4
   subst c4; rw [if_neg (show ¬ (false = true) by decide)] at H; (try dsimp only at H); obtain rfl := Option.some.inj H
   go_enter Try.func47, Try.ntmps47
   go_wp2_with (first | (go_at_call 30; (with_reducible refine (impl_in.calls (h := A3.out) (w := _)).mono ?_); rintro e w' ⟨rfl, ⟨nd_, rfl⟩⟩))
   go_ret; exact ⟨er_, dfi⟩
 ·replace c2 := Bool.eq_false_iff.mpr c2
  subst c2; rw [if_neg (show ¬ (false = true) by decide)] at H; (try dsimp only at H); replace H := Option.bind_eq_some_iff.mp H; obtain ⟨bA, A110, H⟩ := H; (try dsimp only at H); have A11 := Aside0.mk A110; clear A110
  by_cases c12 : bA = true
  ·subst c12
   rw [if_pos rfl] at H; (try dsimp only at H); obtain rfl := Option.some.inj H
   go_enter Try.func47, Try.ntmps47
   go_wp2_with (first | (go_at_call 30; (with_reducible refine (impl_in.calls (h := A11.out) (w := _)).mono ?_); rintro e w' ⟨rfl, ⟨nd_, rfl⟩⟩))
   go_ret; exact ⟨er_, dfi⟩
  ·replace c12 := Bool.eq_false_iff.mpr c12
   subst c12; rw [if_neg (show ¬ (false = true) by decide)] at H; (try dsimp only at H); obtain rfl := Option.some.inj H
   go_enter Try.func47, Try.ntmps47
   go_wp2_with (first | (go_at_call 30; (with_reducible refine (impl_in.calls (h := A11.out) (w := _)).mono ?_); rintro e w' ⟨rfl, ⟨nd_, rfl⟩⟩))
   go_ret; exact ⟨er_, dfi⟩
/-! ### impl_open: function 46 -/
def impl_open.f (k : Nat) (a0_0 : Int) (a0_1 : Bool) (a0_2 : Int) (a0_3 : Int) (a0_4 : Int) (a0_5 : Int) : Option (Bool) := (impl_WordOk.f k a0_0 a0_1 a0_2 a0_3 a0_4 a0_5).bind fun bV => (if bV = true then (if a0_1 = true then (some (a0_5 == 0)) else (some false)) else (some false))
theorem impl_open.mono : ∀ a0 a1 a2 a3 a4 a5 k, LeO (impl_open.f k a0 a1 a2 a3 a4 a5) (impl_open.f (k + 1) a0 a1 a2 a3 a4 a5) := by
 intro a0 a1 a2 a3 a4 a5 k
 unfold impl_open.f
 repeat' first
   | (with_reducible exact impl_WordOk.mono _ _ _ _ _ _ _)
   | (with_reducible exact LeO.refl _)
   | (with_reducible exact LeO.none _)
   | (with_reducible refine LeO.ite ?_ ?_)
   | (with_reducible refine LeO.bind ?_ (fun _ => ?_))
   | exact impl_WordOk.mono _ _ _ _ _ _ _
   | exact LeO.none _
   | refine LeO.ite ?_ ?_
   | refine LeO.bind ?_ (fun _ => ?_)
set_option maxHeartbeats 8000000 in
set_option maxRecDepth 100000 in
theorem impl_open.calls (k : Nat) (a0_0 : Int) (a0_1 : Bool) (a0_2 : Int) (a0_3 : Int) (a0_4 : Int) (a0_5 : Int) (r : Bool) (w : World) (h : impl_open.f k a0_0 a0_1 a0_2 a0_3 a0_4 a0_5 = some r) :
  Calls Try.prog 46 #[.agg #[.int .i64 a0_0, .bool a0_1, .int .i64 a0_2, .int .i64 a0_3, .int .i64 a0_4, .int .i64 a0_5]] w fun e w' => e = .returned (.bool r) ∧ Below w.heap.size w w' := by
 have hu29 := Try.underlying29; have H := h; clear h; unfold impl_open.f at H; (try dsimp only at H); replace H := Option.bind_eq_some_iff.mp H; obtain ⟨bV, A20, H⟩ := H; (try dsimp only at H); have A2 := Aside0.mk A20; clear A20
 by_cases c3 : bV = true
 ·subst c3
  rw [if_pos rfl] at H; (try dsimp only at H)
  by_cases c4 : a0_1 = true
  ·subst c4
   rw [if_pos rfl] at H; (try dsimp only at H); obtain rfl := Option.some.inj H
   go_enter Try.func46, Try.ntmps46
   go_wp2_with (first | (go_at_call 47; (with_reducible refine dmn (impl_WordOk.calls (h := A2.out) (w := _)) ?_); intro x1 hb1 hc; have hw := dsz (n := w.heap.size + 1) hb1; have z := dl1 hw))
   go_ret; exact ⟨er_, dfi⟩
  ·replace c4 := Bool.eq_false_iff.mpr c4
   subst c4; rw [if_neg (show ¬ (false = true) by decide)] at H; (try dsimp only at H); obtain rfl := Option.some.inj H
   go_enter Try.func46, Try.ntmps46
   go_wp2_with (first | (go_at_call 47; (with_reducible refine dmn (impl_WordOk.calls (h := A2.out) (w := _)) ?_); intro x1 hb1 hc; have hw := dsz (n := w.heap.size + 1) hb1; have z := dl1 hw))
   go_ret; exact ⟨er_, dfi⟩
 ·replace c3 := Bool.eq_false_iff.mpr c3
  subst c3; rw [if_neg (show ¬ (false = true) by decide)] at H; (try dsimp only at H); obtain rfl := Option.some.inj H
  go_enter Try.func46, Try.ntmps46
  go_wp2_with (first | (go_at_call 47; (with_reducible refine dmn (impl_WordOk.calls (h := A2.out) (w := _)) ?_); intro x1 hb1 hc; have hw := dsz (n := w.heap.size + 1) hb1; have z := dl1 hw))
  go_ret; exact ⟨er_, dfi⟩
end Go.Proofs.Ytpcladboobfkhaa.PFnWork
