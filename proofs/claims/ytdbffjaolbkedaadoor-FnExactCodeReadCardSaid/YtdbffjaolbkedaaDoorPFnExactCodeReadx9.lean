-- Written by a program of this session (wip/patch.py turns a copy of the kit's print): the functions that the law reaches, and their walks.
import Derived.Test.YtdbffjaolbkedaaDoorPFnExactCodeReadx0
import Derived.Test.YtdbffjaolbkedaaDoorPFnExactCodeReadx4
import Derived.Test.YtdbffjaolbkedaaDoorPFnExactCodeReadx8
import Derived.Test.YtdbffjaolbkedaaDoorCFnExactCodeRead
namespace Go.Proofs.YtdbffjaolbkedaaDoor.PFnExactCodeRead
open Go.RowKit Go.Proofs.YtdbffjaolbkedaaDoorW.PrintWords Go.Proofs.YtdbffjaolbkedaaDoorW.PrintLast Go.Proofs.YtdbffjaolbkedaaDoorW.PrintMore Go.Proofs.YtdbffjaolbkedaaDoorW.Mine
attribute [local go_sem] max2_int min2_int max_two min_two max_three min_three max_four min_four   -- for this text's walks alone
set_option linter.unusedVariables false
set_option linter.unusedSimpArgs false

/-! ### laws_heldInsS: function 12 -/
def laws_heldInsS.l0 : Nat → List (S23) → Int → Int → Option (Int)
 | 0, _, _, _ => none
 | k + 1, x0, x1, x5 => if x5 < (x0.length : Int) then (if 0 ≤ x5 then (if ((rd_T23 x0 x5).f0) = x1 then (if ((rd_T23 x0 x5).f1) = (wrap64 (x1 + 1)) then (if ((rd_T23 x0 x5).f2) = (wrap64 ((wrap64 (x1 + 1)) + 1)) then (if ((rd_T23 x0 x5).f3) = (wrap64 ((wrap64 ((wrap64 (x1 + 1)) + 1)) + 1)) then (if ((rd_T23 x0 x5).f4) = (wrap64 ((wrap64 ((wrap64 ((wrap64 (x1 + 1)) + 1)) + 1)) + 1)) then (laws_heldInsS.l0 k x0 (wrap64 ((wrap64 ((wrap64 ((wrap64 ((wrap64 (x1 + 1)) + 1)) + 1)) + 1)) + 1)) (wrap64 (x5 + 1))) else (some (-1))) else (some (-1))) else (some (-1))) else (some (-1))) else (some (-1))) else (none)) else (some x1)
def laws_heldInsS.f (k : Nat) (l0 : List (S23)) (a1 : Int) : Option (Int) := laws_heldInsS.l0 k l0 a1 0
theorem laws_heldInsS.mono_l : ∀ k, (∀ y0 y1 y2, LeO (laws_heldInsS.l0 k y0 y1 y2) (laws_heldInsS.l0 (k + 1) y0 y1 y2))
 | 0 => fun _ _ _ r h => by simp [laws_heldInsS.l0] at h
 | k + 1 => by
  have ih0 := laws_heldInsS.mono_l k
  ·intro y0 y1 y2
   unfold laws_heldInsS.l0
   repeat' first
   | (with_reducible exact ih0 _ _ _)
   | (with_reducible exact LeO.refl _)
   | (with_reducible exact LeO.none _)
   | (with_reducible refine LeO.ite ?_ ?_)
   | (with_reducible refine LeO.bind ?_ (fun _ => ?_))
   | exact ih0 _ _ _
   | exact LeO.none _
   | refine LeO.ite ?_ ?_
   | refine LeO.bind ?_ (fun _ => ?_)
theorem laws_heldInsS.mono : ∀ a0 a1 k, LeO (laws_heldInsS.f k a0 a1) (laws_heldInsS.f (k + 1) a0 a1) := by
 intro a0 a1 k; have ih0 := laws_heldInsS.mono_l k
 unfold laws_heldInsS.f
 repeat' first
   | (with_reducible exact ih0 _ _ _)
   | (with_reducible exact LeO.refl _)
   | (with_reducible exact LeO.none _)
   | (with_reducible refine LeO.ite ?_ ?_)
   | (with_reducible refine LeO.bind ?_ (fun _ => ?_))
   | exact ih0 _ _ _
   | exact LeO.none _
   | refine LeO.ite ?_ ?_
   | refine LeO.bind ?_ (fun _ => ?_)
set_option maxHeartbeats 8000000 in
set_option maxRecDepth 100000 in
theorem laws_heldInsS.calls (k : Nat) (A0 : Option Addr) (c0 : Nat) (l0 : List (S23)) (a1 : Int) (r : Int) (w : World) (hr0 : Kd.C k23 w A0 l0.length l0) (hc0 : l0.length ≤ c0) (h : laws_heldInsS.f k l0 a1 = some r) :
  Calls Tryd.prog 12 #[.slice A0 l0.length c0, .int .i64 a1] w fun e w' => e = .returned (.int .i64 r) ∧ Drawn0 w w' := by
 have bk := Aside0.mk hr0; have dQ := Aside0.mk hc0; clear hr0 hc0; have H : (laws_heldInsS.l0 k l0 a1 0) = some r := h; clear h; have H' := Aside0.mk H; clear H
 go_enter Tryd.func12, Tryd.ntmps12
 go_wp2
 go_loopg [1, 5] k (fun kq v1 v5 w' => ∃ (bf : Int) (ba : Int), v1 = .int .i64 bf ∧ v5 = .int .i64 ba ∧ Aside0 (laws_heldInsS.l0 kq l0 bf ba = some r) ∧ Aside0 (kq ≤ k) ∧ Drawn0 w w')
 case atStart => exact ⟨(a1), (0), (by first | rfl | (simp; done) | (simp [*]; done)), (by first | rfl | (simp; done) | (simp [*]; done)), H', ⟨Nat.le_refl _⟩, by repeat (first | exact Drawn0.refl _ | apply Drawn0.step)⟩
 case round =>
  clear H'; try clear c1
  try clear p2
  obtain ⟨bf, ba, rfl, rfl, HA, b6, ⟨m1, rfl⟩⟩ := hrel
  cases gk with
  | zero => exact absurd HA.out (by simp [laws_heldInsS.l0])
  | succ k1 =>
   have H := HA.out; clear HA; simp only [laws_heldInsS.l0] at H
   by_cases c3 : ba < (l0.length : Int)
   ·rw [if_pos c3] at H
    have c3b0 : decide (ba < (l0.length : Int)) = true := decide_eq_true c3; clear c3
    by_cases c4 : 0 ≤ ba
    ·rw [if_pos c4] at H
     have c4b0 : decide (0 ≤ ba) = true := decide_eq_true c4; clear c4
     by_cases c5 : ((rd_T23 l0 ba).f0) = bf
     ·rw [if_pos c5] at H
      have c5b0 : (((rd_T23 l0 ba).f0) == bf) = true := beq_iff_eq.mpr c5; have c5b1 : (((rd_T23 l0 ba).f0) != bf) = false := bne_eq_false_iff_eq.mpr c5; clear c5
      by_cases c6 : ((rd_T23 l0 ba).f1) = (wrap64 (bf + 1))
      ·rw [if_pos c6] at H
       have c6b0 : (((rd_T23 l0 ba).f1) == (wrap64 (bf + 1))) = true := beq_iff_eq.mpr c6; have c6b1 : (((rd_T23 l0 ba).f1) != (wrap64 (bf + 1))) = false := bne_eq_false_iff_eq.mpr c6; clear c6
       by_cases c7 : ((rd_T23 l0 ba).f2) = (wrap64 ((wrap64 (bf + 1)) + 1))
       ·rw [if_pos c7] at H
        have c7b0 : (((rd_T23 l0 ba).f2) == (wrap64 ((wrap64 (bf + 1)) + 1))) = true := beq_iff_eq.mpr c7; have c7b1 : (((rd_T23 l0 ba).f2) != (wrap64 ((wrap64 (bf + 1)) + 1))) = false := bne_eq_false_iff_eq.mpr c7; clear c7
        by_cases c8 : ((rd_T23 l0 ba).f3) = (wrap64 ((wrap64 ((wrap64 (bf + 1)) + 1)) + 1))
        ·rw [if_pos c8] at H
         have c8b0 : (((rd_T23 l0 ba).f3) == (wrap64 ((wrap64 ((wrap64 (bf + 1)) + 1)) + 1))) = true := beq_iff_eq.mpr c8; have c8b1 : (((rd_T23 l0 ba).f3) != (wrap64 ((wrap64 ((wrap64 (bf + 1)) + 1)) + 1))) = false := bne_eq_false_iff_eq.mpr c8; clear c8
         by_cases c9 : ((rd_T23 l0 ba).f4) = (wrap64 ((wrap64 ((wrap64 ((wrap64 (bf + 1)) + 1)) + 1)) + 1))
         ·rw [if_pos c9] at H
          have c9b0 : (((rd_T23 l0 ba).f4) == (wrap64 ((wrap64 ((wrap64 ((wrap64 (bf + 1)) + 1)) + 1)) + 1))) = true := beq_iff_eq.mpr c9; have c9b1 : (((rd_T23 l0 ba).f4) != (wrap64 ((wrap64 ((wrap64 ((wrap64 (bf + 1)) + 1)) + 1)) + 1))) = false := bne_eq_false_iff_eq.mpr c9; clear c9; have H' := Aside0.mk H; clear H; have p254 : 0 ≤ (ba : Int) := of_decide_eq_true (by first | (with_reducible assumption) | assumption); have q254 : ba < (l0.length : Int) := of_decide_eq_true (by first | (with_reducible assumption) | assumption); obtain ⟨bl, e254, bF, bG, bH, bI, bJ⟩ := at_T23 bk.out ba p254 q254
          cases e254
          replace p254 := eq_true p254; replace q254 := eq_true q254; have p255 : 0 ≤ (ba : Int) := of_decide_eq_true (by first | (with_reducible assumption) | assumption); have q255 : ba < (l0.length : Int) := of_decide_eq_true (by first | (with_reducible assumption) | assumption); obtain ⟨bz, e255, bR, bS, bT, bU, bV⟩ := at_T23 bk.out ba p255 q255; obtain rfl : bl = bz := (by injection e255); replace p255 := eq_true p255; replace q255 := eq_true q255; have p256 : 0 ≤ (ba : Int) := of_decide_eq_true (by first | (with_reducible assumption) | assumption); have q256 : ba < (l0.length : Int) := of_decide_eq_true (by first | (with_reducible assumption) | assumption); obtain ⟨bD, e256, bY, bZ, b0, b1, b2⟩ := at_T23 bk.out ba p256 q256; obtain rfl : bl = bD := (by injection e256); replace p256 := eq_true p256; replace q256 := eq_true q256; have p257 : 0 ≤ (ba : Int) := of_decide_eq_true (by first | (with_reducible assumption) | assumption); have q257 : ba < (l0.length : Int) := of_decide_eq_true (by first | (with_reducible assumption) | assumption); obtain ⟨bK, e257, b7, b8, b9, da, db⟩ := at_T23 bk.out ba p257 q257; obtain rfl : bl = bK := (by injection e257); replace p257 := eq_true p257; replace q257 := eq_true q257; have p258 : 0 ≤ (ba : Int) := of_decide_eq_true (by first | (with_reducible assumption) | assumption); have q258 : ba < (l0.length : Int) := of_decide_eq_true (by first | (with_reducible assumption) | assumption); obtain ⟨b3, e258, df, dg, dh, di, dj⟩ := at_T23 bk.out ba p258 q258; obtain rfl : bl = b3 := (by injection e258); replace p258 := eq_true p258; replace q258 := eq_true q258; go_wp2
          go_roundg k1
          case measure => have := b6.out; omega
          case rel => exact ⟨(wrap64 ((wrap64 ((wrap64 ((wrap64 ((wrap64 (bf + 1)) + 1)) + 1)) + 1)) + 1)), (wrap64 (ba + 1)), (by first | rfl | (simp; done) | (simp [*]; done)), (by first | rfl | (simp; done) | (simp [*]; done)), H', ⟨by have := b6.out; omega⟩, by repeat (first | exact Drawn0.refl _ | apply Drawn0.step)⟩
         ·rw [if_neg c9] at H
          have c9b0 : (((rd_T23 l0 ba).f4) == (wrap64 ((wrap64 ((wrap64 ((wrap64 (bf + 1)) + 1)) + 1)) + 1))) = false := beq_eq_false_iff_ne.mpr c9; have c9b1 : (((rd_T23 l0 ba).f4) != (wrap64 ((wrap64 ((wrap64 ((wrap64 (bf + 1)) + 1)) + 1)) + 1))) = true := bne_iff_ne.mpr c9; obtain rfl := Option.some.inj H; have p254 : 0 ≤ (ba : Int) := of_decide_eq_true (by first | (with_reducible assumption) | assumption); have q254 : ba < (l0.length : Int) := of_decide_eq_true (by first | (with_reducible assumption) | assumption); obtain ⟨bl, e254, bF, bG, bH, bI, bJ⟩ := at_T23 bk.out ba p254 q254
          cases e254
          replace p254 := eq_true p254; replace q254 := eq_true q254; have p255 : 0 ≤ (ba : Int) := of_decide_eq_true (by first | (with_reducible assumption) | assumption); have q255 : ba < (l0.length : Int) := of_decide_eq_true (by first | (with_reducible assumption) | assumption); obtain ⟨bz, e255, bR, bS, bT, bU, bV⟩ := at_T23 bk.out ba p255 q255; obtain rfl : bl = bz := (by injection e255); replace p255 := eq_true p255; replace q255 := eq_true q255; have p256 : 0 ≤ (ba : Int) := of_decide_eq_true (by first | (with_reducible assumption) | assumption); have q256 : ba < (l0.length : Int) := of_decide_eq_true (by first | (with_reducible assumption) | assumption); obtain ⟨bD, e256, bY, bZ, b0, b1, b2⟩ := at_T23 bk.out ba p256 q256; obtain rfl : bl = bD := (by injection e256); replace p256 := eq_true p256; replace q256 := eq_true q256; have p257 : 0 ≤ (ba : Int) := of_decide_eq_true (by first | (with_reducible assumption) | assumption); have q257 : ba < (l0.length : Int) := of_decide_eq_true (by first | (with_reducible assumption) | assumption); obtain ⟨bK, e257, b7, b8, b9, da, db⟩ := at_T23 bk.out ba p257 q257; obtain rfl : bl = bK := (by injection e257); replace p257 := eq_true p257; replace q257 := eq_true q257; have p258 : 0 ≤ (ba : Int) := of_decide_eq_true (by first | (with_reducible assumption) | assumption); have q258 : ba < (l0.length : Int) := of_decide_eq_true (by first | (with_reducible assumption) | assumption); obtain ⟨b3, e258, df, dg, dh, di, dj⟩ := at_T23 bk.out ba p258 q258; obtain rfl : bl = b3 := (by injection e258); replace p258 := eq_true p258; replace q258 := eq_true q258; go_wp2
          go_ret
          exact ⟨by first | rfl | (simp; done) | (simp [*]; done), by repeat (first | exact Drawn0.refl _ | apply Drawn0.step)⟩
        ·rw [if_neg c8] at H
         have c8b0 : (((rd_T23 l0 ba).f3) == (wrap64 ((wrap64 ((wrap64 (bf + 1)) + 1)) + 1))) = false := beq_eq_false_iff_ne.mpr c8; have c8b1 : (((rd_T23 l0 ba).f3) != (wrap64 ((wrap64 ((wrap64 (bf + 1)) + 1)) + 1))) = true := bne_iff_ne.mpr c8; obtain rfl := Option.some.inj H; have p254 : 0 ≤ (ba : Int) := of_decide_eq_true (by first | (with_reducible assumption) | assumption); have q254 : ba < (l0.length : Int) := of_decide_eq_true (by first | (with_reducible assumption) | assumption); obtain ⟨bl, e254, bF, bG, bH, bI, bJ⟩ := at_T23 bk.out ba p254 q254
         cases e254
         replace p254 := eq_true p254; replace q254 := eq_true q254; have p255 : 0 ≤ (ba : Int) := of_decide_eq_true (by first | (with_reducible assumption) | assumption); have q255 : ba < (l0.length : Int) := of_decide_eq_true (by first | (with_reducible assumption) | assumption); obtain ⟨bz, e255, bR, bS, bT, bU, bV⟩ := at_T23 bk.out ba p255 q255; obtain rfl : bl = bz := (by injection e255); replace p255 := eq_true p255; replace q255 := eq_true q255; have p256 : 0 ≤ (ba : Int) := of_decide_eq_true (by first | (with_reducible assumption) | assumption); have q256 : ba < (l0.length : Int) := of_decide_eq_true (by first | (with_reducible assumption) | assumption); obtain ⟨bD, e256, bY, bZ, b0, b1, b2⟩ := at_T23 bk.out ba p256 q256; obtain rfl : bl = bD := (by injection e256); replace p256 := eq_true p256; replace q256 := eq_true q256; have p257 : 0 ≤ (ba : Int) := of_decide_eq_true (by first | (with_reducible assumption) | assumption); have q257 : ba < (l0.length : Int) := of_decide_eq_true (by first | (with_reducible assumption) | assumption); obtain ⟨bK, e257, b7, b8, b9, da, db⟩ := at_T23 bk.out ba p257 q257; obtain rfl : bl = bK := (by injection e257); replace p257 := eq_true p257; replace q257 := eq_true q257; go_wp2
         go_ret
         exact ⟨by first | rfl | (simp; done) | (simp [*]; done), by repeat (first | exact Drawn0.refl _ | apply Drawn0.step)⟩
       ·rw [if_neg c7] at H
        have c7b0 : (((rd_T23 l0 ba).f2) == (wrap64 ((wrap64 (bf + 1)) + 1))) = false := beq_eq_false_iff_ne.mpr c7; have c7b1 : (((rd_T23 l0 ba).f2) != (wrap64 ((wrap64 (bf + 1)) + 1))) = true := bne_iff_ne.mpr c7; obtain rfl := Option.some.inj H; have p254 : 0 ≤ (ba : Int) := of_decide_eq_true (by first | (with_reducible assumption) | assumption); have q254 : ba < (l0.length : Int) := of_decide_eq_true (by first | (with_reducible assumption) | assumption); obtain ⟨bl, e254, bF, bG, bH, bI, bJ⟩ := at_T23 bk.out ba p254 q254
        cases e254
        replace p254 := eq_true p254; replace q254 := eq_true q254; have p255 : 0 ≤ (ba : Int) := of_decide_eq_true (by first | (with_reducible assumption) | assumption); have q255 : ba < (l0.length : Int) := of_decide_eq_true (by first | (with_reducible assumption) | assumption); obtain ⟨bz, e255, bR, bS, bT, bU, bV⟩ := at_T23 bk.out ba p255 q255; obtain rfl : bl = bz := (by injection e255); replace p255 := eq_true p255; replace q255 := eq_true q255; have p256 : 0 ≤ (ba : Int) := of_decide_eq_true (by first | (with_reducible assumption) | assumption); have q256 : ba < (l0.length : Int) := of_decide_eq_true (by first | (with_reducible assumption) | assumption); obtain ⟨bD, e256, bY, bZ, b0, b1, b2⟩ := at_T23 bk.out ba p256 q256; obtain rfl : bl = bD := (by injection e256); replace p256 := eq_true p256; replace q256 := eq_true q256; go_wp2
        go_ret
        exact ⟨by first | rfl | (simp; done) | (simp [*]; done), by repeat (first | exact Drawn0.refl _ | apply Drawn0.step)⟩
      ·rw [if_neg c6] at H
       have c6b0 : (((rd_T23 l0 ba).f1) == (wrap64 (bf + 1))) = false := beq_eq_false_iff_ne.mpr c6; have c6b1 : (((rd_T23 l0 ba).f1) != (wrap64 (bf + 1))) = true := bne_iff_ne.mpr c6; obtain rfl := Option.some.inj H; have p254 : 0 ≤ (ba : Int) := of_decide_eq_true (by first | (with_reducible assumption) | assumption); have q254 : ba < (l0.length : Int) := of_decide_eq_true (by first | (with_reducible assumption) | assumption); obtain ⟨bl, e254, bF, bG, bH, bI, bJ⟩ := at_T23 bk.out ba p254 q254
       cases e254
       replace p254 := eq_true p254; replace q254 := eq_true q254; have p255 : 0 ≤ (ba : Int) := of_decide_eq_true (by first | (with_reducible assumption) | assumption); have q255 : ba < (l0.length : Int) := of_decide_eq_true (by first | (with_reducible assumption) | assumption); obtain ⟨bz, e255, bR, bS, bT, bU, bV⟩ := at_T23 bk.out ba p255 q255; obtain rfl : bl = bz := (by injection e255); replace p255 := eq_true p255; replace q255 := eq_true q255; go_wp2
       go_ret
       exact ⟨by first | rfl | (simp; done) | (simp [*]; done), by repeat (first | exact Drawn0.refl _ | apply Drawn0.step)⟩
     ·rw [if_neg c5] at H
      have c5b0 : (((rd_T23 l0 ba).f0) == bf) = false := beq_eq_false_iff_ne.mpr c5; have c5b1 : (((rd_T23 l0 ba).f0) != bf) = true := bne_iff_ne.mpr c5; obtain rfl := Option.some.inj H; have p254 : 0 ≤ (ba : Int) := of_decide_eq_true (by first | (with_reducible assumption) | assumption); have q254 : ba < (l0.length : Int) := of_decide_eq_true (by first | (with_reducible assumption) | assumption); obtain ⟨bl, e254, bF, bG, bH, bI, bJ⟩ := at_T23 bk.out ba p254 q254
      cases e254
      replace p254 := eq_true p254; replace q254 := eq_true q254; go_wp2
      go_ret
      exact ⟨by first | rfl | (simp; done) | (simp [*]; done), by repeat (first | exact Drawn0.refl _ | apply Drawn0.step)⟩
    ·rw [if_neg c4] at H
     exact absurd H (by simp)
   ·rw [if_neg c3] at H
    have c3b0 : decide (ba < (l0.length : Int)) = false := decide_eq_false c3; clear c3; obtain rfl := Option.some.inj H; go_wp2
    go_ret
    exact ⟨by first | rfl | (simp; done) | (simp [*]; done), by repeat (first | exact Drawn0.refl _ | apply Drawn0.step)⟩

/-! ### laws_FnExactCodeRead: function 4 -/
mutual
def laws_FnExactCodeRead.j0 : Nat → ByteArray → List (S23) → Bool → List (S23) → Bool → Option (Bool)
 | 0, _, _, _, _, _ => none
 | k + 1, x0, x3, x4, x5, dk => if dk = true then (some false) else ((laws_markInsS.f k x5 1).bind fun bq => ((laws_heldInsS.f k bq.2 1).bind fun bi => (if bi < 0 then (some false) else (if bi = bq.1 then ((impl_CodeRead.f k x0).bind fun bu => ((laws_eqInsS.f k bu.1 x3).bind fun bs => (if bs = true then (laws_FnExactCodeRead.j1 k bq.2 bq.1 (bu.2 != x4)) else (laws_FnExactCodeRead.j1 k bq.2 bq.1 true)))) else (some false)))))
def laws_FnExactCodeRead.j1 : Nat → List (S23) → Int → Bool → Option (Bool)
 | 0, _, _, _ => none
 | k + 1, x5, x7, dl => if dl = true then (some false) else ((laws_heldInsS.f k x5 1).bind fun bm => (if bm < 0 then (some false) else (if bm = x7 then (some true) else (some false))))
end
def laws_FnExactCodeRead.f (k : Nat) (a0 : ByteArray) : Option (Bool) := if (a0.size : Int) > 1048576 then (some true) else ((spec_CodeRead.f k a0).bind fun br => ((impl_CodeRead.f k a0).bind fun bp => ((laws_eqInsS.f k bp.1 br.1).bind fun bw => (if bw = true then (laws_FnExactCodeRead.j0 k a0 br.1 br.2 bp.1 (bp.2 != br.2)) else (laws_FnExactCodeRead.j0 k a0 br.1 br.2 bp.1 true)))))
theorem laws_FnExactCodeRead.mono_l : ∀ k, (∀ y0 y1 y2 y3 y4, LeO (laws_FnExactCodeRead.j0 k y0 y1 y2 y3 y4) (laws_FnExactCodeRead.j0 (k + 1) y0 y1 y2 y3 y4)) ∧ (∀ y0 y1 y2, LeO (laws_FnExactCodeRead.j1 k y0 y1 y2) (laws_FnExactCodeRead.j1 (k + 1) y0 y1 y2))
 | 0 => ⟨fun _ _ _ _ _ r h => by simp [laws_FnExactCodeRead.j0] at h, fun _ _ _ r h => by simp [laws_FnExactCodeRead.j1] at h⟩
 | k + 1 => by
  obtain ⟨ih0, ih1⟩ := laws_FnExactCodeRead.mono_l k; refine ⟨?_, ?_⟩
  ·intro y0 y1 y2 y3 y4
   unfold laws_FnExactCodeRead.j0
   repeat' first
   | (with_reducible exact ih0 _ _ _ _ _)
   | (with_reducible exact ih1 _ _ _)
   | (with_reducible exact impl_CodeRead.mono _ _)
   | (with_reducible exact laws_eqInsS.mono _ _ _)
   | (with_reducible exact laws_heldInsS.mono _ _ _)
   | (with_reducible exact laws_markInsS.mono _ _ _)
   | (with_reducible exact spec_CodeRead.mono _ _)
   | (with_reducible exact LeO.refl _)
   | (with_reducible exact LeO.none _)
   | (with_reducible refine LeO.ite ?_ ?_)
   | (with_reducible refine LeO.bind ?_ (fun _ => ?_))
   | exact ih0 _ _ _ _ _
   | exact ih1 _ _ _
   | exact impl_CodeRead.mono _ _
   | exact laws_eqInsS.mono _ _ _
   | exact laws_heldInsS.mono _ _ _
   | exact laws_markInsS.mono _ _ _
   | exact spec_CodeRead.mono _ _
   | exact LeO.none _
   | refine LeO.ite ?_ ?_
   | refine LeO.bind ?_ (fun _ => ?_)
  ·intro y0 y1 y2
   unfold laws_FnExactCodeRead.j1
   repeat' first
   | (with_reducible exact ih0 _ _ _ _ _)
   | (with_reducible exact ih1 _ _ _)
   | (with_reducible exact impl_CodeRead.mono _ _)
   | (with_reducible exact laws_eqInsS.mono _ _ _)
   | (with_reducible exact laws_heldInsS.mono _ _ _)
   | (with_reducible exact laws_markInsS.mono _ _ _)
   | (with_reducible exact spec_CodeRead.mono _ _)
   | (with_reducible exact LeO.refl _)
   | (with_reducible exact LeO.none _)
   | (with_reducible refine LeO.ite ?_ ?_)
   | (with_reducible refine LeO.bind ?_ (fun _ => ?_))
   | exact ih0 _ _ _ _ _
   | exact ih1 _ _ _
   | exact impl_CodeRead.mono _ _
   | exact laws_eqInsS.mono _ _ _
   | exact laws_heldInsS.mono _ _ _
   | exact laws_markInsS.mono _ _ _
   | exact spec_CodeRead.mono _ _
   | exact LeO.none _
   | refine LeO.ite ?_ ?_
   | refine LeO.bind ?_ (fun _ => ?_)
theorem laws_FnExactCodeRead.mono : ∀ a0 k, LeO (laws_FnExactCodeRead.f k a0) (laws_FnExactCodeRead.f (k + 1) a0) := by
 intro a0 k; obtain ⟨ih0, ih1⟩ := laws_FnExactCodeRead.mono_l k
 unfold laws_FnExactCodeRead.f
 repeat' first
   | (with_reducible exact ih0 _ _ _ _ _)
   | (with_reducible exact ih1 _ _ _)
   | (with_reducible exact impl_CodeRead.mono _ _)
   | (with_reducible exact laws_eqInsS.mono _ _ _)
   | (with_reducible exact laws_heldInsS.mono _ _ _)
   | (with_reducible exact laws_markInsS.mono _ _ _)
   | (with_reducible exact spec_CodeRead.mono _ _)
   | (with_reducible exact LeO.refl _)
   | (with_reducible exact LeO.none _)
   | (with_reducible refine LeO.ite ?_ ?_)
   | (with_reducible refine LeO.bind ?_ (fun _ => ?_))
   | exact ih0 _ _ _ _ _
   | exact ih1 _ _ _
   | exact impl_CodeRead.mono _ _
   | exact laws_eqInsS.mono _ _ _
   | exact laws_heldInsS.mono _ _ _
   | exact laws_markInsS.mono _ _ _
   | exact spec_CodeRead.mono _ _
   | exact LeO.none _
   | refine LeO.ite ?_ ?_
   | refine LeO.bind ?_ (fun _ => ?_)
set_option maxHeartbeats 8000000 in
set_option maxRecDepth 100000 in
theorem laws_FnExactCodeRead.calls (k : Nat) (a0 : ByteArray) (r : Bool) (w : World) (h : laws_FnExactCodeRead.f k a0 = some r) (hT_ : TabW w) :
  Calls Tryd.prog 4 #[.string a0] w fun e w' => e = .returned (.bool r) ∧ Below w.heap.size w w' := by
 have HT := Aside0.mk hT_; clear hT_
 have HB := Aside0.mk (Below.refl w.heap.size w); have H : (if (a0.size : Int) > 1048576 then (some true) else ((spec_CodeRead.f k a0).bind fun br => ((impl_CodeRead.f k a0).bind fun bp => ((laws_eqInsS.f k bp.1 br.1).bind fun bw => (if bw = true then (laws_FnExactCodeRead.j0 k a0 br.1 br.2 bp.1 (bp.2 != br.2)) else (laws_FnExactCodeRead.j0 k a0 br.1 br.2 bp.1 true)))))) = some r := h; clear h
 by_cases c2 : (a0.size : Int) > 1048576
 ·rw [if_pos c2] at H
  have c2b0 : decide (1048576 < (a0.size : Int)) = true := decide_eq_true c2; have c2b1 : decide (1048576 < a0.size) = true := decide_eq_true (by omega); clear c2; obtain rfl := Option.some.inj H
  go_enter Tryd.func4, Tryd.ntmps4
  go_wp2
  go_ret
  exact ⟨er_, nbe HB⟩
 ·rw [if_neg c2] at H
  have c2b0 : decide (1048576 < (a0.size : Int)) = false := decide_eq_false c2; have c2b1 : decide (1048576 < a0.size) = false := decide_eq_false (by omega); clear c2; replace H := Option.bind_eq_some_iff.mp H; obtain ⟨⟨bh, bj⟩, A30, H⟩ := H; replace H : ((impl_CodeRead.f k a0).bind fun bp => ((laws_eqInsS.f k bp.1 bh).bind fun bw => (if bw = true then (laws_FnExactCodeRead.j0 k a0 bh bj bp.1 (bp.2 != bj)) else (laws_FnExactCodeRead.j0 k a0 bh bj bp.1 true)))) = some r := H; have A3 := Aside0.mk A30; clear A30; replace H := Option.bind_eq_some_iff.mp H; obtain ⟨⟨bc, bL⟩, A40, H⟩ := H; replace H : ((laws_eqInsS.f k bc bh).bind fun bw => (if bw = true then (laws_FnExactCodeRead.j0 k a0 bh bj bc (bL != bj)) else (laws_FnExactCodeRead.j0 k a0 bh bj bc true))) = some r := H; have A4 := Aside0.mk A40; clear A40; have b4 := Aside0.mk H; clear H
  go_enter Tryd.func4, Tryd.ntmps4
  go_upto_region 5 with (first | ((with_reducible refine gate_callee (f := 8) rfl ?_); refine goesM (some 16) rfl rfl Tryd.func8 (by kernel_rfl) rfl #[.string a0] rfl ?_; (with_reducible refine (spec_CodeRead.calls k a0 bh bj _ A3.out).mono ?_); rintro e w6 ⟨dc, rfl, bv, hb⟩; refine ⟨_, rfl, ?_⟩; have bo := Aside0.mk (Kd.R_lower bv (bsz HB)); replace HB := nbs HB hb; (try clear hb); (try clear bv)) | ((with_reducible refine gate_callee (f := 9) rfl ?_); refine goesM (some 21) rfl rfl Tryd.func9 (by kernel_rfl) rfl #[.string a0] rfl ?_; (with_reducible refine (impl_CodeRead.calls k a0 bc bL _ A4.out ?hT).mono ?_); (case hT => exact nT HT HB); rintro e w7 ⟨dd, rfl, bv, hb⟩; refine ⟨_, rfl, ?_⟩; have bt := Aside0.mk (Kd.R_lower (Kd.R_new' bv (Kd.R_lt (nRo bo))) (bsz HB)); replace bo := Aside0.mk (Kd.R_elder' (nRo bo) (Kd.R_base bv) hb); replace HB := nbs HB hb; (try clear hb); (try clear bv)))
  (try simp only [Act.put, List.setIfInBounds_toArray, List.set_cons_zero, List.set_cons_succ])
  go_cut [32] (fun dm wc => ∃ (kq : Nat) (bW : Bool), dm = .bool bW ∧ Aside0 (laws_FnExactCodeRead.j0 kq a0 bh bj bc bW = some r) ∧ Aside0 (kq ≤ k) ∧ Aside0 (Kd.R k23 23 wc w.heap.size (fun k_ => some k_ ≠ (dd : Value).ownBlock) dc bh) ∧ Aside0 (Kd.R k23 23 wc w.heap.size (fun k_ => some k_ ≠ (dc : Value).ownBlock) dd bc) ∧ Aside0 (Below w.heap.size w wc))
  case first =>
   have H := b4.out; clear b4; replace H := Option.bind_eq_some_iff.mp H; obtain ⟨bw, A80, H⟩ := H; replace H : (if bw = true then (laws_FnExactCodeRead.j0 k a0 bh bj bc (bL != bj)) else (laws_FnExactCodeRead.j0 k a0 bh bj bc true)) = some r := H; have A8 := Aside0.mk A80; clear A80
   by_cases c9 : bw = true
   ·subst c9
    have H1 : (laws_FnExactCodeRead.j0 k a0 bh bj bc (bL != bj)) = some r := by rw [if_pos rfl] at H; exact H
    clear H; have H := H1; clear H1; have H' := Aside0.mk H; clear H; obtain ⟨dn, dp, dq⟩ := Kd.R_slice bt.out; subst dq; obtain ⟨dr, ds, dt⟩ := Kd.R_slice bo.out; subst dt
    go_wp2_with (first | ((with_reducible refine gate_callee (f := 10) rfl ?_); refine goesM (some 26) rfl rfl Tryd.func10 (by kernel_rfl) rfl #[.slice dn bc.length dp, .slice dr bh.length ds] rfl ?_; (with_reducible refine (laws_eqInsS.calls k _ _ bc _ _ bh true _ ?side1 ?side2 ?side3 ?side4 A8.out).mono ?_); (case side1 => repeat (first | exact (Kd.R_reads' bt.out).2.2 | (with_reducible refine Kd.C_alloc ?_ _) | (with_reducible refine Kd.C_drewN ?_ _) | (with_reducible refine Kd.C_drew ?_))); (case side2 => exact (Kd.R_reads' bt.out).2.1); (case side3 => repeat (first | exact (Kd.R_reads' bo.out).2.2 | (with_reducible refine Kd.C_alloc ?_ _) | (with_reducible refine Kd.C_drewN ?_ _) | (with_reducible refine Kd.C_drew ?_))); (case side4 => exact (Kd.R_reads' bo.out).2.1); rintro e dR ⟨rfl, hb⟩; refine ⟨_, rfl, ?_⟩; replace bo := nR bo hb; replace bt := nR bt hb; replace HB := nbs HB hb; (try clear hb)))
    go_meet
    case rel => exact ⟨_, ((bL != bj)), (by first | rfl | (simp; done) | (simp [*]; done)), H', ⟨by first | omega | exact Nat.le_refl _⟩, ⟨by (with_reducible repeat (first | apply Kd.R_alloc | apply Kd.R_drewN | apply Kd.R_drew)); exact Kd.R_mono bo.out (fun _ hk => hk.2)⟩, ⟨by (with_reducible repeat (first | apply Kd.R_alloc | apply Kd.R_drewN | apply Kd.R_drew)); exact Kd.R_mono bt.out (fun _ hk => hk.2)⟩, ⟨nbe HB⟩⟩
   ·replace c9 := Bool.eq_false_iff.mpr c9
    subst c9; have H1 : (laws_FnExactCodeRead.j0 k a0 bh bj bc true) = some r := by rw [if_neg (show ¬ (false = true) by decide)] at H; exact H
    clear H; have H := H1; clear H1; have H' := Aside0.mk H; clear H; obtain ⟨du, dv, dw⟩ := Kd.R_slice bt.out; subst dw; obtain ⟨dx, dy, dz⟩ := Kd.R_slice bo.out; subst dz
    go_wp2_with (first | ((with_reducible refine gate_callee (f := 10) rfl ?_); refine goesM (some 26) rfl rfl Tryd.func10 (by kernel_rfl) rfl #[.slice du bc.length dv, .slice dx bh.length dy] rfl ?_; (with_reducible refine (laws_eqInsS.calls k _ _ bc _ _ bh false _ ?side1 ?side2 ?side3 ?side4 A8.out).mono ?_); (case side1 => repeat (first | exact (Kd.R_reads' bt.out).2.2 | (with_reducible refine Kd.C_alloc ?_ _) | (with_reducible refine Kd.C_drewN ?_ _) | (with_reducible refine Kd.C_drew ?_))); (case side2 => exact (Kd.R_reads' bt.out).2.1); (case side3 => repeat (first | exact (Kd.R_reads' bo.out).2.2 | (with_reducible refine Kd.C_alloc ?_ _) | (with_reducible refine Kd.C_drewN ?_ _) | (with_reducible refine Kd.C_drew ?_))); (case side4 => exact (Kd.R_reads' bo.out).2.1); rintro e dS ⟨rfl, hb⟩; refine ⟨_, rfl, ?_⟩; replace bo := nR bo hb; replace bt := nR bt hb; replace HB := nbs HB hb; (try clear hb)))
    go_meet
    case rel => exact ⟨_, (true), (by first | rfl | (simp; done) | (simp [*]; done)), H', ⟨by first | omega | exact Nat.le_refl _⟩, ⟨by (with_reducible repeat (first | apply Kd.R_alloc | apply Kd.R_drewN | apply Kd.R_drew)); exact Kd.R_mono bo.out (fun _ hk => hk.2)⟩, ⟨by (with_reducible repeat (first | apply Kd.R_alloc | apply Kd.R_drewN | apply Kd.R_drew)); exact Kd.R_mono bt.out (fun _ hk => hk.2)⟩, ⟨nbe HB⟩⟩
  case rest =>
   clear b4; try clear c1
   try clear c2
   try clear c2b0
   try clear c2b1
   try clear p2
   try clear c4
   try clear c8
   try clear c9
   try clear c10
   obtain ⟨kq, bW, rfl, HA, de, bn, bb, HB⟩ := hcut
   cases kq with
   | zero => exact absurd HA.out (by simp [laws_FnExactCodeRead.j0])
   | succ kj4 =>
    have H := HA.out; clear HA; simp only [laws_FnExactCodeRead.j0] at H
    by_cases c16 : bW = true
    ·subst c16
     have H1 : (some false) = some r := by rw [if_pos rfl] at H; exact H
     clear H; have H := H1; clear H1; obtain rfl := Option.some.inj H; go_wp2
     go_ret
     exact ⟨er_, nbe HB⟩
    ·replace c16 := Bool.eq_false_iff.mpr c16
     subst c16; have H1 : ((laws_markInsS.f kj4 bc 1).bind fun bq => ((laws_heldInsS.f kj4 bq.2 1).bind fun bi => (if bi < 0 then (some false) else (if bi = bq.1 then ((impl_CodeRead.f kj4 a0).bind fun bu => ((laws_eqInsS.f kj4 bu.1 bh).bind fun bs => (if bs = true then (laws_FnExactCodeRead.j1 kj4 bq.2 bq.1 (bu.2 != bj)) else (laws_FnExactCodeRead.j1 kj4 bq.2 bq.1 true)))) else (some false))))) = some r := by rw [if_neg (show ¬ (false = true) by decide)] at H; exact H
     clear H; have H := H1; clear H1; replace H := Option.bind_eq_some_iff.mp H; obtain ⟨⟨bg, bd⟩, A170, H⟩ := H; replace H : ((laws_heldInsS.f kj4 bd 1).bind fun bi => (if bi < 0 then (some false) else (if bi = bg then ((impl_CodeRead.f kj4 a0).bind fun bu => ((laws_eqInsS.f kj4 bu.1 bh).bind fun bs => (if bs = true then (laws_FnExactCodeRead.j1 kj4 bd bg (bu.2 != bj)) else (laws_FnExactCodeRead.j1 kj4 bd bg true)))) else (some false)))) = some r := H; have A17 := Aside0.mk A170; clear A170; replace H := Option.bind_eq_some_iff.mp H; obtain ⟨bi, A180, H⟩ := H; replace H : (if bi < 0 then (some false) else (if bi = bg then ((impl_CodeRead.f kj4 a0).bind fun bu => ((laws_eqInsS.f kj4 bu.1 bh).bind fun bs => (if bs = true then (laws_FnExactCodeRead.j1 kj4 bd bg (bu.2 != bj)) else (laws_FnExactCodeRead.j1 kj4 bd bg true)))) else (some false))) = some r := H; have A18 := Aside0.mk A180; clear A180
     by_cases c19 : bi < 0
     ·rw [if_pos c19] at H
      have c19b0 : decide (bi < 0) = true := decide_eq_true c19; clear c19; obtain rfl := Option.some.inj H; obtain ⟨bM, bN, dA⟩ := Kd.R_slice bb.out; subst dA
      go_wp2_with (first | ((with_reducible refine gate_callee (f := 11) rfl ?_); refine goesM (some 35) rfl rfl Tryd.func11 (by kernel_rfl) rfl #[.slice bM bc.length bN, .int .i64 1] rfl ?_; (with_reducible refine (laws_markInsS.calls kj4 (fun k_ => some k_ = (.slice bM bc.length bN : Value).ownBlock) (.slice bM bc.length bN) bc 1 bg bd w _ ?side1 ?side2 A17.out).mono ?_); (case side1 => exact nbe HB); (case side2 => exact Kd.R_tight rfl bb.out); rintro e dT ⟨rfl, bC, hb, hkp⟩; refine ⟨_, rfl, ?_⟩; replace bn := Aside0.mk (Kd.R_mono (ok' := fun k_ => some k_ ≠ (.slice bM bc.length bN : Value).ownBlock) (Kd.R_keptB (bn.out) hkp (fun k_ hk_ hs_ => (hk_) hs_)) (fun k_ hk_ => hk_.1)); replace bb := Aside0.mk (Kd.R_reok rfl bC (fun k_ e_ => bb.out.1 k_ e_)); replace HB := Aside0.mk (hb); (try clear hb); (try clear hkp); (try clear bC)) | ((with_reducible refine gate_callee (f := 12) rfl ?_); refine goesL_ (some 38) rfl rfl Tryd.func12 (by kernel_rfl) rfl #[.slice bM bd.length bN, .int .i64 1] rfl (by (try simp only [List.map_toArray, List.map_cons, List.map_nil]); first | done | (rw [show bd.length = bc.length from (Kd.R_reads' bb.out).1.symm] <;> rfl) | rfl | (simp only [List.length_drop, List.length_take]; rfl)) ?_; (with_reducible refine (laws_heldInsS.calls kj4 _ _ bd 1 bi _ ?side1 ?side2 A18.out).mono ?_); (case side1 => repeat (first | exact (Kd.R_reads' bb.out).2.2 | (with_reducible refine Kd.C_alloc ?_ _) | (with_reducible refine Kd.C_drewN ?_ _) | (with_reducible refine Kd.C_drew ?_))); (case side2 => rw [show bd.length = bc.length from (Kd.R_reads' bb.out).1.symm]; exact (Kd.R_reads' bb.out).2.1); rintro e w' ⟨rfl, ⟨nd, rfl⟩⟩; refine ⟨_, rfl, ?_⟩))
      go_ret
      exact ⟨er_, nbe HB⟩
     ·rw [if_neg c19] at H
      have c19b0 : decide (bi < 0) = false := decide_eq_false c19; clear c19
      by_cases c22 : bi = bg
      ·rw [if_pos c22] at H
       have c22b0 : (bi == bg) = true := beq_iff_eq.mpr c22; have c22b1 : (bi != bg) = false := bne_eq_false_iff_eq.mpr c22; clear c22; replace H := Option.bind_eq_some_iff.mp H; obtain ⟨⟨bE, bO⟩, A230, H⟩ := H; replace H : ((laws_eqInsS.f kj4 bE bh).bind fun bs => (if bs = true then (laws_FnExactCodeRead.j1 kj4 bd bg (bO != bj)) else (laws_FnExactCodeRead.j1 kj4 bd bg true))) = some r := H; have A23 := Aside0.mk A230; clear A230; have b5 := Aside0.mk H; clear H; obtain ⟨bA, bB, dB⟩ := Kd.R_slice bb.out; subst dB
       go_upto_region 16 with (first | ((with_reducible refine gate_callee (f := 11) rfl ?_); refine goesM (some 35) rfl rfl Tryd.func11 (by kernel_rfl) rfl #[.slice bA bc.length bB, .int .i64 1] rfl ?_; (with_reducible refine (laws_markInsS.calls kj4 (fun k_ => some k_ = (.slice bA bc.length bB : Value).ownBlock) (.slice bA bc.length bB) bc 1 bg bd w _ ?side1 ?side2 A17.out).mono ?_); (case side1 => exact nbe HB); (case side2 => exact Kd.R_tight rfl bb.out); rintro e dU ⟨rfl, bC, hb, hkp⟩; refine ⟨_, rfl, ?_⟩; replace bn := Aside0.mk (Kd.R_mono (ok' := fun k_ => some k_ ≠ (.slice bA bc.length bB : Value).ownBlock) (Kd.R_keptB (bn.out) hkp (fun k_ hk_ hs_ => (hk_) hs_)) (fun k_ hk_ => hk_.1)); replace bb := Aside0.mk (Kd.R_reok rfl bC (fun k_ e_ => bb.out.1 k_ e_)); replace HB := Aside0.mk (hb); (try clear hb); (try clear hkp); (try clear bC)) | ((with_reducible refine gate_callee (f := 12) rfl ?_); refine goesL_ (some 38) rfl rfl Tryd.func12 (by kernel_rfl) rfl #[.slice bA bd.length bB, .int .i64 1] rfl (by (try simp only [List.map_toArray, List.map_cons, List.map_nil]); first | done | (rw [show bd.length = bc.length from (Kd.R_reads' bb.out).1.symm] <;> rfl) | rfl | (simp only [List.length_drop, List.length_take]; rfl)) ?_; (with_reducible refine (laws_heldInsS.calls kj4 _ _ bd 1 bi _ ?side1 ?side2 A18.out).mono ?_); (case side1 => repeat (first | exact (Kd.R_reads' bb.out).2.2 | (with_reducible refine Kd.C_alloc ?_ _) | (with_reducible refine Kd.C_drewN ?_ _) | (with_reducible refine Kd.C_drew ?_))); (case side2 => rw [show bd.length = bc.length from (Kd.R_reads' bb.out).1.symm]; exact (Kd.R_reads' bb.out).2.1); rintro e w' ⟨rfl, ⟨nd, rfl⟩⟩; refine ⟨_, rfl, ?_⟩) | ((with_reducible refine gate_callee (f := 9) rfl ?_); refine goesM (some 46) rfl rfl Tryd.func9 (by kernel_rfl) rfl #[.string a0] rfl ?_; (with_reducible refine (impl_CodeRead.calls kj4 a0 bE bO _ A23.out ?hT).mono ?_); (case hT => exact nT HT HB); rintro e dV ⟨dW, rfl, bv, hb⟩; refine ⟨_, rfl, ?_⟩; have bx := Aside0.mk (Kd.R_lower (Kd.R_new' (Kd.R_new' bv (Kd.R_lt (nRo bn))) (Kd.R_lt (nRo bb))) (bsz HB)); replace bn := Aside0.mk (Kd.R_elder' (nRo bn) (Kd.R_base bv) hb); replace bb := Aside0.mk (Kd.R_elder' (nRo bb) (Kd.R_base bv) hb); replace HB := nbs HB hb; (try clear hb); (try clear bv)))
       (try simp only [Act.put, List.setIfInBounds_toArray, List.set_cons_zero, List.set_cons_succ])
       go_cut [57] (fun dC wc => ∃ (kq : Nat) (bX : Bool), dC = .bool bX ∧ Aside0 (laws_FnExactCodeRead.j1 kq bd bg bX = some r) ∧ Aside0 (kq ≤ kj4) ∧ Aside0 (Kd.R k23 23 wc w.heap.size (fun _ => True) (.slice bA bc.length bB) bd) ∧ Aside0 (Below w.heap.size w wc))
       case first =>
        have H := b5.out; clear b5; replace H := Option.bind_eq_some_iff.mp H; obtain ⟨bs, A280, H⟩ := H; replace H : (if bs = true then (laws_FnExactCodeRead.j1 kj4 bd bg (bO != bj)) else (laws_FnExactCodeRead.j1 kj4 bd bg true)) = some r := H; have A28 := Aside0.mk A280; clear A280
        by_cases c29 : bs = true
        ·subst c29
         have H1 : (laws_FnExactCodeRead.j1 kj4 bd bg (bO != bj)) = some r := by rw [if_pos rfl] at H; exact H
         clear H; have H := H1; clear H1; have H' := Aside0.mk H; clear H; obtain ⟨dD, dE, dF⟩ := Kd.R_slice bx.out; subst dF; obtain ⟨dG, dH, dI⟩ := Kd.R_slice bn.out; subst dI
         go_wp2_with (first | ((with_reducible refine gate_callee (f := 10) rfl ?_); refine goesM (some 51) rfl rfl Tryd.func10 (by kernel_rfl) rfl #[.slice dD bE.length dE, .slice dG bh.length dH] rfl ?_; (with_reducible refine (laws_eqInsS.calls kj4 _ _ bE _ _ bh true _ ?side1 ?side2 ?side3 ?side4 A28.out).mono ?_); (case side1 => repeat (first | exact (Kd.R_reads' bx.out).2.2 | (with_reducible refine Kd.C_alloc ?_ _) | (with_reducible refine Kd.C_drewN ?_ _) | (with_reducible refine Kd.C_drew ?_))); (case side2 => exact (Kd.R_reads' bx.out).2.1); (case side3 => repeat (first | exact (Kd.R_reads' bn.out).2.2 | (with_reducible refine Kd.C_alloc ?_ _) | (with_reducible refine Kd.C_drewN ?_ _) | (with_reducible refine Kd.C_drew ?_))); (case side4 => exact (Kd.R_reads' bn.out).2.1); rintro e dX ⟨rfl, hb⟩; refine ⟨_, rfl, ?_⟩; replace bn := nR bn hb; replace bb := nR bb hb; replace bx := nR bx hb; replace HB := nbs HB hb; (try clear hb)))
         go_meet
         case rel => exact ⟨_, ((bO != bj)), (by first | rfl | (simp; done) | (simp [*]; done)), H', ⟨by have := de.out; first | omega | exact Nat.le_refl _⟩, ⟨by (with_reducible repeat (first | apply Kd.R_alloc | apply Kd.R_drewN | apply Kd.R_drew)); exact Kd.R_mono bb.out (fun _ hk => trivial)⟩, ⟨nbe HB⟩⟩
        ·replace c29 := Bool.eq_false_iff.mpr c29
         subst c29; have H1 : (laws_FnExactCodeRead.j1 kj4 bd bg true) = some r := by rw [if_neg (show ¬ (false = true) by decide)] at H; exact H
         clear H; have H := H1; clear H1; have H' := Aside0.mk H; clear H; obtain ⟨dJ, dK, dL⟩ := Kd.R_slice bx.out; subst dL; obtain ⟨dM, dN, dO⟩ := Kd.R_slice bn.out; subst dO
         go_wp2_with (first | ((with_reducible refine gate_callee (f := 10) rfl ?_); refine goesM (some 51) rfl rfl Tryd.func10 (by kernel_rfl) rfl #[.slice dJ bE.length dK, .slice dM bh.length dN] rfl ?_; (with_reducible refine (laws_eqInsS.calls kj4 _ _ bE _ _ bh false _ ?side1 ?side2 ?side3 ?side4 A28.out).mono ?_); (case side1 => repeat (first | exact (Kd.R_reads' bx.out).2.2 | (with_reducible refine Kd.C_alloc ?_ _) | (with_reducible refine Kd.C_drewN ?_ _) | (with_reducible refine Kd.C_drew ?_))); (case side2 => exact (Kd.R_reads' bx.out).2.1); (case side3 => repeat (first | exact (Kd.R_reads' bn.out).2.2 | (with_reducible refine Kd.C_alloc ?_ _) | (with_reducible refine Kd.C_drewN ?_ _) | (with_reducible refine Kd.C_drew ?_))); (case side4 => exact (Kd.R_reads' bn.out).2.1); rintro e dY ⟨rfl, hb⟩; refine ⟨_, rfl, ?_⟩; replace bn := nR bn hb; replace bb := nR bb hb; replace bx := nR bx hb; replace HB := nbs HB hb; (try clear hb)))
         go_meet
         case rel => exact ⟨_, (true), (by first | rfl | (simp; done) | (simp [*]; done)), H', ⟨by have := de.out; first | omega | exact Nat.le_refl _⟩, ⟨by (with_reducible repeat (first | apply Kd.R_alloc | apply Kd.R_drewN | apply Kd.R_drew)); exact Kd.R_mono bb.out (fun _ hk => trivial)⟩, ⟨nbe HB⟩⟩
       case rest =>
        clear b5; try clear c1
        try clear c2
        try clear c2b0
        try clear c2b1
        try clear p2
        try clear c4
        try clear c8
        try clear c9
        try clear c10
        try clear c11
        try clear c12
        try clear c16
        try clear c19
        try clear c19b0
        try clear c22
        try clear c22b0
        try clear c22b1
        try clear c29
        try clear p2
        obtain ⟨kq, bX, rfl, HA, dZ, bb, HB⟩ := hcut; have hl5_23 := (Kd.R_reads' bb.out).1; rw [hl5_23] at bb; (try simp only [hl5_23])
        cases kq with
        | zero => exact absurd HA.out (by simp [laws_FnExactCodeRead.j1])
        | succ kj23 =>
         have H := HA.out; clear HA; simp only [laws_FnExactCodeRead.j1] at H
         by_cases c36 : bX = true
         ·subst c36
          have H1 : (some false) = some r := by rw [if_pos rfl] at H; exact H
          clear H; have H := H1; clear H1; obtain rfl := Option.some.inj H; go_wp2
          go_ret
          exact ⟨er_, nbe HB⟩
         ·replace c36 := Bool.eq_false_iff.mpr c36
          subst c36; have H1 : ((laws_heldInsS.f kj23 bd 1).bind fun bm => (if bm < 0 then (some false) else (if bm = bg then (some true) else (some false)))) = some r := by rw [if_neg (show ¬ (false = true) by decide)] at H; exact H
          clear H; have H := H1; clear H1; replace H := Option.bind_eq_some_iff.mp H; obtain ⟨bm, A370, H⟩ := H; replace H : (if bm < 0 then (some false) else (if bm = bg then (some true) else (some false))) = some r := H; have A37 := Aside0.mk A370; clear A370
          by_cases c38 : bm < 0
          ·rw [if_pos c38] at H
           have c38b0 : decide (bm < 0) = true := decide_eq_true c38; clear c38; obtain rfl := Option.some.inj H
           go_wp2_with (first | ((with_reducible refine gate_callee (f := 12) rfl ?_); refine goesM (some 60) rfl rfl Tryd.func12 (by kernel_rfl) rfl #[.slice bA bd.length bB, .int .i64 1] rfl ?_; (with_reducible refine (laws_heldInsS.calls kj23 _ _ bd 1 bm _ ?side1 ?side2 A37.out).mono ?_); (case side1 => repeat (first | exact (Kd.R_reads' bb.out).2.2 | (with_reducible refine Kd.C_alloc ?_ _) | (with_reducible refine Kd.C_drewN ?_ _) | (with_reducible refine Kd.C_drew ?_))); (case side2 => exact (Kd.R_reads' bb.out).2.1); rintro e w' ⟨rfl, ⟨nd, rfl⟩⟩; refine ⟨_, rfl, ?_⟩))
           go_ret
           exact ⟨er_, nbe HB⟩
          ·rw [if_neg c38] at H
           have c38b0 : decide (bm < 0) = false := decide_eq_false c38; clear c38
           by_cases c39 : bm = bg
           ·rw [if_pos c39] at H
            have c39b0 : (bm == bg) = true := beq_iff_eq.mpr c39; have c39b1 : (bm != bg) = false := bne_eq_false_iff_eq.mpr c39; clear c39; obtain rfl := Option.some.inj H
            go_wp2_with (first | ((with_reducible refine gate_callee (f := 12) rfl ?_); refine goesM (some 60) rfl rfl Tryd.func12 (by kernel_rfl) rfl #[.slice bA bd.length bB, .int .i64 1] rfl ?_; (with_reducible refine (laws_heldInsS.calls kj23 _ _ bd 1 bm _ ?side1 ?side2 A37.out).mono ?_); (case side1 => repeat (first | exact (Kd.R_reads' bb.out).2.2 | (with_reducible refine Kd.C_alloc ?_ _) | (with_reducible refine Kd.C_drewN ?_ _) | (with_reducible refine Kd.C_drew ?_))); (case side2 => exact (Kd.R_reads' bb.out).2.1); rintro e w' ⟨rfl, ⟨nd, rfl⟩⟩; refine ⟨_, rfl, ?_⟩))
            go_ret
            exact ⟨er_, nbe HB⟩
           ·rw [if_neg c39] at H
            have c39b0 : (bm == bg) = false := beq_eq_false_iff_ne.mpr c39; have c39b1 : (bm != bg) = true := bne_iff_ne.mpr c39; obtain rfl := Option.some.inj H
            go_wp2_with (first | ((with_reducible refine gate_callee (f := 12) rfl ?_); refine goesM (some 60) rfl rfl Tryd.func12 (by kernel_rfl) rfl #[.slice bA bd.length bB, .int .i64 1] rfl ?_; (with_reducible refine (laws_heldInsS.calls kj23 _ _ bd 1 bm _ ?side1 ?side2 A37.out).mono ?_); (case side1 => repeat (first | exact (Kd.R_reads' bb.out).2.2 | (with_reducible refine Kd.C_alloc ?_ _) | (with_reducible refine Kd.C_drewN ?_ _) | (with_reducible refine Kd.C_drew ?_))); (case side2 => exact (Kd.R_reads' bb.out).2.1); rintro e w' ⟨rfl, ⟨nd, rfl⟩⟩; refine ⟨_, rfl, ?_⟩))
            go_ret
            exact ⟨er_, nbe HB⟩
      ·rw [if_neg c22] at H
       have c22b0 : (bi == bg) = false := beq_eq_false_iff_ne.mpr c22; have c22b1 : (bi != bg) = true := bne_iff_ne.mpr c22; obtain rfl := Option.some.inj H; obtain ⟨bP, bQ, dP⟩ := Kd.R_slice bb.out; subst dP
       go_wp2_with (first | ((with_reducible refine gate_callee (f := 11) rfl ?_); refine goesM (some 35) rfl rfl Tryd.func11 (by kernel_rfl) rfl #[.slice bP bc.length bQ, .int .i64 1] rfl ?_; (with_reducible refine (laws_markInsS.calls kj4 (fun k_ => some k_ = (.slice bP bc.length bQ : Value).ownBlock) (.slice bP bc.length bQ) bc 1 bg bd w _ ?side1 ?side2 A17.out).mono ?_); (case side1 => exact nbe HB); (case side2 => exact Kd.R_tight rfl bb.out); rintro e d0 ⟨rfl, bC, hb, hkp⟩; refine ⟨_, rfl, ?_⟩; replace bn := Aside0.mk (Kd.R_mono (ok' := fun k_ => some k_ ≠ (.slice bP bc.length bQ : Value).ownBlock) (Kd.R_keptB (bn.out) hkp (fun k_ hk_ hs_ => (hk_) hs_)) (fun k_ hk_ => hk_.1)); replace bb := Aside0.mk (Kd.R_reok rfl bC (fun k_ e_ => bb.out.1 k_ e_)); replace HB := Aside0.mk (hb); (try clear hb); (try clear hkp); (try clear bC)) | ((with_reducible refine gate_callee (f := 12) rfl ?_); refine goesL_ (some 38) rfl rfl Tryd.func12 (by kernel_rfl) rfl #[.slice bP bd.length bQ, .int .i64 1] rfl (by (try simp only [List.map_toArray, List.map_cons, List.map_nil]); first | done | (rw [show bd.length = bc.length from (Kd.R_reads' bb.out).1.symm] <;> rfl) | rfl | (simp only [List.length_drop, List.length_take]; rfl)) ?_; (with_reducible refine (laws_heldInsS.calls kj4 _ _ bd 1 bi _ ?side1 ?side2 A18.out).mono ?_); (case side1 => repeat (first | exact (Kd.R_reads' bb.out).2.2 | (with_reducible refine Kd.C_alloc ?_ _) | (with_reducible refine Kd.C_drewN ?_ _) | (with_reducible refine Kd.C_drew ?_))); (case side2 => rw [show bd.length = bc.length from (Kd.R_reads' bb.out).1.symm]; exact (Kd.R_reads' bb.out).2.1); rintro e w' ⟨rfl, ⟨nd, rfl⟩⟩; refine ⟨_, rfl, ?_⟩))
       go_ret
       exact ⟨er_, nbe HB⟩


end Go.Proofs.YtdbffjaolbkedaaDoor.PFnExactCodeRead
