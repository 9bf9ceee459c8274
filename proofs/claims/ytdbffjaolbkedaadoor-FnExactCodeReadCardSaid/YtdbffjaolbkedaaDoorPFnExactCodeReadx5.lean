-- Written by a program of this session (wip/patch.py turns a copy of the kit's print): the functions that the law reaches, and their walks.
import Derived.Test.YtdbffjaolbkedaaDoorPFnExactCodeReadx0
import Derived.Test.YtdbffjaolbkedaaDoorPFnExactCodeReadx4
import Derived.Test.YtdbffjaolbkedaaDoorCFnExactCodeRead
namespace Go.Proofs.YtdbffjaolbkedaaDoor.PFnExactCodeRead
open Go.RowKit Go.Proofs.YtdbffjaolbkedaaDoorW.PrintWords Go.Proofs.YtdbffjaolbkedaaDoorW.PrintLast Go.Proofs.YtdbffjaolbkedaaDoorW.PrintMore Go.Proofs.YtdbffjaolbkedaaDoorW.Mine
attribute [local go_sem] max2_int min2_int max_two min_two max_three min_three max_four min_four   -- for this text's walks alone
set_option linter.unusedVariables false
set_option linter.unusedSimpArgs false

/-! ### impl_formOf: function 21 -/
mutual
def impl_formOf.j0 : Nat → Int → Bool → Option (ByteArray × Bool)
  | 0, _, _ => none
  | k + 1, x4, x7 => if x7 = true then (some ((⟨#[82, 65, 66]⟩ : ByteArray), true)) else (if x4 = 3 then (impl_formOf.j1 k x4 (x4 == 3)) else (if x4 = 9 then (impl_formOf.j1 k x4 (x4 == 9)) else (impl_formOf.j1 k x4 (x4 == 12))))
def impl_formOf.j1 : Nat → Int → Bool → Option (ByteArray × Bool)
  | 0, _, _ => none
  | k + 1, x4, bD => if bD = true then (some ((⟨#[82, 65]⟩ : ByteArray), true)) else (if x4 = 6 then (some ((⟨#[82, 65, 66, 78]⟩ : ByteArray), true)) else (if x4 = 10 then (some ((⟨#[82, 65, 78]⟩ : ByteArray), true)) else (if x4 = 11 then (some ((⟨#[65, 66, 78]⟩ : ByteArray), true)) else (if x4 = 13 then (some ((⟨#[65, 78]⟩ : ByteArray), true)) else (if x4 = 14 then (some ((⟨#[65]⟩ : ByteArray), true)) else (if x4 = 15 then (some ((⟨#[]⟩ : ByteArray), true)) else (some ((⟨#[]⟩ : ByteArray), false))))))))
end
def impl_formOf.f (k : Nat) (a0 : Int) : Option (ByteArray × Bool) := if a0 = 1 then (some ((⟨#[82, 78]⟩ : ByteArray), true)) else (if a0 = 2 then (impl_formOf.j0 k a0 (a0 == 2)) else (if a0 = 4 then (impl_formOf.j0 k a0 (a0 == 4)) else (if a0 = 5 then (impl_formOf.j0 k a0 (a0 == 5)) else (if a0 = 7 then (impl_formOf.j0 k a0 (a0 == 7)) else (impl_formOf.j0 k a0 (a0 == 8))))))
theorem impl_formOf.mono_l : ∀ k, (∀ y0 y1, LeO (impl_formOf.j0 k y0 y1) (impl_formOf.j0 (k + 1) y0 y1)) ∧ (∀ y0 y1, LeO (impl_formOf.j1 k y0 y1) (impl_formOf.j1 (k + 1) y0 y1))
  | 0 => ⟨fun _ _ r h => by simp [impl_formOf.j0] at h, fun _ _ r h => by simp [impl_formOf.j1] at h⟩
  | k + 1 => by
    obtain ⟨ih0, ih1⟩ := impl_formOf.mono_l k; refine ⟨?_, ?_⟩
    · intro y0 y1
      unfold impl_formOf.j0
      repeat' first
      | (with_reducible exact ih0 _ _)
      | (with_reducible exact ih1 _ _)
      | (with_reducible exact LeO.refl _)
      | (with_reducible exact LeO.none _)
      | (with_reducible refine LeO.ite ?_ ?_)
      | (with_reducible refine LeO.bind ?_ (fun _ => ?_))
      | exact ih0 _ _
      | exact ih1 _ _
      | exact LeO.none _
      | refine LeO.ite ?_ ?_
      | refine LeO.bind ?_ (fun _ => ?_)
    · intro y0 y1
      unfold impl_formOf.j1
      repeat' first
      | (with_reducible exact ih0 _ _)
      | (with_reducible exact ih1 _ _)
      | (with_reducible exact LeO.refl _)
      | (with_reducible exact LeO.none _)
      | (with_reducible refine LeO.ite ?_ ?_)
      | (with_reducible refine LeO.bind ?_ (fun _ => ?_))
      | exact ih0 _ _
      | exact ih1 _ _
      | exact LeO.none _
      | refine LeO.ite ?_ ?_
      | refine LeO.bind ?_ (fun _ => ?_)
theorem impl_formOf.mono : ∀ a0 k, LeO (impl_formOf.f k a0) (impl_formOf.f (k + 1) a0) := by
  intro a0 k; obtain ⟨ih0, ih1⟩ := impl_formOf.mono_l k
  unfold impl_formOf.f
  repeat' first
      | (with_reducible exact ih0 _ _)
      | (with_reducible exact ih1 _ _)
      | (with_reducible exact LeO.refl _)
      | (with_reducible exact LeO.none _)
      | (with_reducible refine LeO.ite ?_ ?_)
      | (with_reducible refine LeO.bind ?_ (fun _ => ?_))
      | exact ih0 _ _
      | exact ih1 _ _
      | exact LeO.none _
      | refine LeO.ite ?_ ?_
      | refine LeO.bind ?_ (fun _ => ?_)
set_option maxHeartbeats 8000000 in
set_option maxRecDepth 100000 in
theorem impl_formOf.calls (k : Nat) (a0 : Int) (r1 : ByteArray) (r2 : Bool) (w : World) (h : impl_formOf.f k a0 = some (r1, r2)) :
    Calls Tryd.prog 21 #[.int .i64 a0] w fun e w' => e = .returned (.tuple #[.string r1, .bool r2]) ∧ Drawn0 w w' := by
  have H : (if a0 = 1 then (some ((⟨#[82, 78]⟩ : ByteArray), true)) else (if a0 = 2 then (impl_formOf.j0 k a0 (a0 == 2)) else (if a0 = 4 then (impl_formOf.j0 k a0 (a0 == 4)) else (if a0 = 5 then (impl_formOf.j0 k a0 (a0 == 5)) else (if a0 = 7 then (impl_formOf.j0 k a0 (a0 == 7)) else (impl_formOf.j0 k a0 (a0 == 8))))))) = some (r1, r2) := h; clear h
  by_cases c2 : a0 = 1
  · rw [if_pos c2] at H
    have c2b0 : (a0 == 1) = true := beq_iff_eq.mpr c2; have c2b1 : (a0 != 1) = false := bne_eq_false_iff_eq.mpr c2; clear c2; simp only [Option.some.injEq, Prod.mk.injEq] at H; obtain ⟨rfl, rfl⟩ := H
    go_enter Tryd.func21, Tryd.ntmps21
    go_wp2
    go_ret2
    exact ⟨by first | rfl | (simp; done) | (simp [*]; done), by repeat (first | exact Drawn0.refl _ | apply Drawn0.step)⟩
  · rw [if_neg c2] at H
    have c2b0 : (a0 == 1) = false := beq_eq_false_iff_ne.mpr c2; have c2b1 : (a0 != 1) = true := bne_iff_ne.mpr c2; have bu := Aside0.mk H; clear H
    go_enter Tryd.func21, Tryd.ntmps21
    go_upto_if 7 with (fail)
    go_cut [7] (fun v7 wc => ∃ (kq : Nat) (bl : Bool), v7 = .bool bl ∧ Aside0 (impl_formOf.j0 kq a0 bl = some (r1, r2)) ∧ Aside0 (kq ≤ k) ∧ Drawn0 w wc)
    case first =>
      have H := bu.out; clear bu
      by_cases c4 : a0 = 2
      · rw [if_pos c4] at H
        have c4b0 : (a0 == 2) = true := beq_iff_eq.mpr c4; have c4b1 : (a0 != 2) = false := bne_eq_false_iff_eq.mpr c4; clear c4; (first | rw [c4b0] | (simp only [i64_w, i32_w]; rw [c4b0]) | skip); have H' := Aside0.mk H; clear H; go_wp2
        go_meet
        case rel => exact ⟨_, ((a0 == 2)), (by first | rfl | (simp; done) | (simp [*]; done)), H', ⟨by first | omega | exact Nat.le_refl _⟩, by repeat (first | exact Drawn0.refl _ | apply Drawn0.step)⟩
      · rw [if_neg c4] at H
        have c4b0 : (a0 == 2) = false := beq_eq_false_iff_ne.mpr c4; have c4b1 : (a0 != 2) = true := bne_iff_ne.mpr c4; (first | rw [c4b0] | (simp only [i64_w, i32_w]; rw [c4b0]) | skip)
        by_cases c5 : a0 = 4
        · rw [if_pos c5] at H
          have c5b0 : (a0 == 4) = true := beq_iff_eq.mpr c5; have c5b1 : (a0 != 4) = false := bne_eq_false_iff_eq.mpr c5; clear c5; have H' := Aside0.mk H; clear H; go_wp2
          go_meet
          case rel => exact ⟨_, ((a0 == 4)), (by first | rfl | (simp; done) | (simp [*]; done)), H', ⟨by first | omega | exact Nat.le_refl _⟩, by repeat (first | exact Drawn0.refl _ | apply Drawn0.step)⟩
        · rw [if_neg c5] at H
          have c5b0 : (a0 == 4) = false := beq_eq_false_iff_ne.mpr c5; have c5b1 : (a0 != 4) = true := bne_iff_ne.mpr c5
          by_cases c6 : a0 = 5
          · rw [if_pos c6] at H
            have c6b0 : (a0 == 5) = true := beq_iff_eq.mpr c6; have c6b1 : (a0 != 5) = false := bne_eq_false_iff_eq.mpr c6; clear c6; have H' := Aside0.mk H; clear H; go_wp2
            go_meet
            case rel => exact ⟨_, ((a0 == 5)), (by first | rfl | (simp; done) | (simp [*]; done)), H', ⟨by first | omega | exact Nat.le_refl _⟩, by repeat (first | exact Drawn0.refl _ | apply Drawn0.step)⟩
          · rw [if_neg c6] at H
            have c6b0 : (a0 == 5) = false := beq_eq_false_iff_ne.mpr c6; have c6b1 : (a0 != 5) = true := bne_iff_ne.mpr c6
            by_cases c7 : a0 = 7
            · rw [if_pos c7] at H
              have c7b0 : (a0 == 7) = true := beq_iff_eq.mpr c7; have c7b1 : (a0 != 7) = false := bne_eq_false_iff_eq.mpr c7; clear c7; have H' := Aside0.mk H; clear H; go_wp2
              go_meet
              case rel => exact ⟨_, ((a0 == 7)), (by first | rfl | (simp; done) | (simp [*]; done)), H', ⟨by first | omega | exact Nat.le_refl _⟩, by repeat (first | exact Drawn0.refl _ | apply Drawn0.step)⟩
            · rw [if_neg c7] at H
              have c7b0 : (a0 == 7) = false := beq_eq_false_iff_ne.mpr c7; have c7b1 : (a0 != 7) = true := bne_iff_ne.mpr c7; have H' := Aside0.mk H; clear H; go_wp2
              go_meet
              case rel => exact ⟨_, ((a0 == 8)), (by first | rfl | (simp; done) | (simp [*]; done)), H', ⟨by first | omega | exact Nat.le_refl _⟩, by repeat (first | exact Drawn0.refl _ | apply Drawn0.step)⟩
    case rest =>
      clear bu; try clear c2
      try clear c2b0
      try clear c2b1
      try clear p2
      try clear c4
      try clear c4b0
      try clear c4b1
      try clear c5
      try clear c5b0
      try clear c5b1
      try clear c6
      try clear c6b0
      try clear c6b1
      try clear c7
      try clear c7b0
      try clear c7b1
      obtain ⟨kq, bl, rfl, HA, bv, ⟨mc2, rfl⟩⟩ := hcut
      cases kq with
      | zero => exact absurd HA.out (by simp [impl_formOf.j0])
      | succ kj2 =>
        have H := HA.out; clear HA; simp only [impl_formOf.j0] at H
        by_cases c8 : bl = true
        · subst c8
          have H1 : (some ((⟨#[82, 65, 66]⟩ : ByteArray), true)) = some (r1, r2) := by rw [if_pos rfl] at H; exact H
          clear H; have H := H1; clear H1; simp only [Option.some.injEq, Prod.mk.injEq] at H; obtain ⟨rfl, rfl⟩ := H; go_wp2
          go_ret2
          exact ⟨by first | rfl | (simp; done) | (simp [*]; done), by repeat (first | exact Drawn0.refl _ | apply Drawn0.step)⟩
        · replace c8 := Bool.eq_false_iff.mpr c8
          subst c8; have H1 : (if a0 = 3 then (impl_formOf.j1 kj2 a0 (a0 == 3)) else (if a0 = 9 then (impl_formOf.j1 kj2 a0 (a0 == 9)) else (impl_formOf.j1 kj2 a0 (a0 == 12)))) = some (r1, r2) := by rw [if_neg (show ¬ (false = true) by decide)] at H; exact H
          clear H; have H := H1; clear H1; have bw := Aside0.mk H; clear H
          go_upto_if 13 with (fail)
          go_cut [13] (fun bE wc => ∃ (kq : Nat) (bm : Bool), bE = .bool bm ∧ Aside0 (impl_formOf.j1 kq a0 bm = some (r1, r2)) ∧ Aside0 (kq ≤ kj2) ∧ Drawn0 w wc)
          case first =>
            have H := bw.out; clear bw
            by_cases c10 : a0 = 3
            · rw [if_pos c10] at H
              have c10b0 : (a0 == 3) = true := beq_iff_eq.mpr c10; have c10b1 : (a0 != 3) = false := bne_eq_false_iff_eq.mpr c10; clear c10; (first | rw [c10b0] | (simp only [i64_w, i32_w]; rw [c10b0]) | skip); have H' := Aside0.mk H; clear H; go_wp2
              go_meet
              case rel => exact ⟨_, ((a0 == 3)), (by first | rfl | (simp; done) | (simp [*]; done)), H', ⟨by have := bv.out; first | omega | exact Nat.le_refl _⟩, by repeat (first | exact Drawn0.refl _ | apply Drawn0.step)⟩
            · rw [if_neg c10] at H
              have c10b0 : (a0 == 3) = false := beq_eq_false_iff_ne.mpr c10; have c10b1 : (a0 != 3) = true := bne_iff_ne.mpr c10; (first | rw [c10b0] | (simp only [i64_w, i32_w]; rw [c10b0]) | skip)
              by_cases c11 : a0 = 9
              · rw [if_pos c11] at H
                have c11b0 : (a0 == 9) = true := beq_iff_eq.mpr c11; have c11b1 : (a0 != 9) = false := bne_eq_false_iff_eq.mpr c11; clear c11; have H' := Aside0.mk H; clear H; go_wp2
                go_meet
                case rel => exact ⟨_, ((a0 == 9)), (by first | rfl | (simp; done) | (simp [*]; done)), H', ⟨by have := bv.out; first | omega | exact Nat.le_refl _⟩, by repeat (first | exact Drawn0.refl _ | apply Drawn0.step)⟩
              · rw [if_neg c11] at H
                have c11b0 : (a0 == 9) = false := beq_eq_false_iff_ne.mpr c11; have c11b1 : (a0 != 9) = true := bne_iff_ne.mpr c11; have H' := Aside0.mk H; clear H; go_wp2
                go_meet
                case rel => exact ⟨_, ((a0 == 12)), (by first | rfl | (simp; done) | (simp [*]; done)), H', ⟨by have := bv.out; first | omega | exact Nat.le_refl _⟩, by repeat (first | exact Drawn0.refl _ | apply Drawn0.step)⟩
          case rest =>
            clear bw; try clear c1
            try clear c2
            try clear c2b0
            try clear c2b1
            try clear p2
            try clear c4
            try clear c4b0
            try clear c4b1
            try clear c5
            try clear c5b0
            try clear c5b1
            try clear c6
            try clear c6b0
            try clear c6b1
            try clear c7
            try clear c7b0
            try clear c7b1
            try clear c8
            try clear c10
            try clear c10b0
            try clear c10b1
            try clear c11
            try clear c11b0
            try clear c11b1
            try clear p2
            obtain ⟨kq, bm, rfl, HA, bS, ⟨mc8, rfl⟩⟩ := hcut
            cases kq with
            | zero => exact absurd HA.out (by simp [impl_formOf.j1])
            | succ kj8 =>
              have H := HA.out; clear HA; simp only [impl_formOf.j1] at H
              by_cases c12 : bm = true
              · subst c12
                have H1 : (some ((⟨#[82, 65]⟩ : ByteArray), true)) = some (r1, r2) := by rw [if_pos rfl] at H; exact H
                clear H; have H := H1; clear H1; simp only [Option.some.injEq, Prod.mk.injEq] at H; obtain ⟨rfl, rfl⟩ := H; go_wp2
                go_ret2
                exact ⟨by first | rfl | (simp; done) | (simp [*]; done), by repeat (first | exact Drawn0.refl _ | apply Drawn0.step)⟩
              · replace c12 := Bool.eq_false_iff.mpr c12
                subst c12; have H1 : (if a0 = 6 then (some ((⟨#[82, 65, 66, 78]⟩ : ByteArray), true)) else (if a0 = 10 then (some ((⟨#[82, 65, 78]⟩ : ByteArray), true)) else (if a0 = 11 then (some ((⟨#[65, 66, 78]⟩ : ByteArray), true)) else (if a0 = 13 then (some ((⟨#[65, 78]⟩ : ByteArray), true)) else (if a0 = 14 then (some ((⟨#[65]⟩ : ByteArray), true)) else (if a0 = 15 then (some ((⟨#[]⟩ : ByteArray), true)) else (some ((⟨#[]⟩ : ByteArray), false)))))))) = some (r1, r2) := by rw [if_neg (show ¬ (false = true) by decide)] at H; exact H
                clear H; have H := H1; clear H1
                by_cases c13 : a0 = 6
                · rw [if_pos c13] at H
                  have c13b0 : (a0 == 6) = true := beq_iff_eq.mpr c13; have c13b1 : (a0 != 6) = false := bne_eq_false_iff_eq.mpr c13; clear c13; simp only [Option.some.injEq, Prod.mk.injEq] at H; obtain ⟨rfl, rfl⟩ := H; go_wp2
                  go_ret2
                  exact ⟨by first | rfl | (simp; done) | (simp [*]; done), by repeat (first | exact Drawn0.refl _ | apply Drawn0.step)⟩
                · rw [if_neg c13] at H
                  have c13b0 : (a0 == 6) = false := beq_eq_false_iff_ne.mpr c13; have c13b1 : (a0 != 6) = true := bne_iff_ne.mpr c13
                  by_cases c14 : a0 = 10
                  · rw [if_pos c14] at H
                    have c14b0 : (a0 == 10) = true := beq_iff_eq.mpr c14; have c14b1 : (a0 != 10) = false := bne_eq_false_iff_eq.mpr c14; clear c14; simp only [Option.some.injEq, Prod.mk.injEq] at H; obtain ⟨rfl, rfl⟩ := H; go_wp2
                    go_ret2
                    exact ⟨by first | rfl | (simp; done) | (simp [*]; done), by repeat (first | exact Drawn0.refl _ | apply Drawn0.step)⟩
                  · rw [if_neg c14] at H
                    have c14b0 : (a0 == 10) = false := beq_eq_false_iff_ne.mpr c14; have c14b1 : (a0 != 10) = true := bne_iff_ne.mpr c14
                    by_cases c15 : a0 = 11
                    · rw [if_pos c15] at H
                      have c15b0 : (a0 == 11) = true := beq_iff_eq.mpr c15; have c15b1 : (a0 != 11) = false := bne_eq_false_iff_eq.mpr c15; clear c15; simp only [Option.some.injEq, Prod.mk.injEq] at H; obtain ⟨rfl, rfl⟩ := H; go_wp2
                      go_ret2
                      exact ⟨by first | rfl | (simp; done) | (simp [*]; done), by repeat (first | exact Drawn0.refl _ | apply Drawn0.step)⟩
                    · rw [if_neg c15] at H
                      have c15b0 : (a0 == 11) = false := beq_eq_false_iff_ne.mpr c15; have c15b1 : (a0 != 11) = true := bne_iff_ne.mpr c15
                      by_cases c16 : a0 = 13
                      · rw [if_pos c16] at H
                        have c16b0 : (a0 == 13) = true := beq_iff_eq.mpr c16; have c16b1 : (a0 != 13) = false := bne_eq_false_iff_eq.mpr c16; clear c16; simp only [Option.some.injEq, Prod.mk.injEq] at H; obtain ⟨rfl, rfl⟩ := H; go_wp2
                        go_ret2
                        exact ⟨by first | rfl | (simp; done) | (simp [*]; done), by repeat (first | exact Drawn0.refl _ | apply Drawn0.step)⟩
                      · rw [if_neg c16] at H
                        have c16b0 : (a0 == 13) = false := beq_eq_false_iff_ne.mpr c16; have c16b1 : (a0 != 13) = true := bne_iff_ne.mpr c16
                        by_cases c17 : a0 = 14
                        · rw [if_pos c17] at H
                          have c17b0 : (a0 == 14) = true := beq_iff_eq.mpr c17; have c17b1 : (a0 != 14) = false := bne_eq_false_iff_eq.mpr c17; clear c17; simp only [Option.some.injEq, Prod.mk.injEq] at H; obtain ⟨rfl, rfl⟩ := H; go_wp2
                          go_ret2
                          exact ⟨by first | rfl | (simp; done) | (simp [*]; done), by repeat (first | exact Drawn0.refl _ | apply Drawn0.step)⟩
                        · rw [if_neg c17] at H
                          have c17b0 : (a0 == 14) = false := beq_eq_false_iff_ne.mpr c17; have c17b1 : (a0 != 14) = true := bne_iff_ne.mpr c17
                          by_cases c18 : a0 = 15
                          · rw [if_pos c18] at H
                            have c18b0 : (a0 == 15) = true := beq_iff_eq.mpr c18; have c18b1 : (a0 != 15) = false := bne_eq_false_iff_eq.mpr c18; clear c18; simp only [Option.some.injEq, Prod.mk.injEq] at H; obtain ⟨rfl, rfl⟩ := H; go_wp2
                            go_ret2
                            exact ⟨by first | rfl | (simp; done) | (simp [*]; done), by repeat (first | exact Drawn0.refl _ | apply Drawn0.step)⟩
                          · rw [if_neg c18] at H
                            have c18b0 : (a0 == 15) = false := beq_eq_false_iff_ne.mpr c18; have c18b1 : (a0 != 15) = true := bne_iff_ne.mpr c18; simp only [Option.some.injEq, Prod.mk.injEq] at H; obtain ⟨rfl, rfl⟩ := H; go_wp2
                            go_ret2
                            exact ⟨by first | rfl | (simp; done) | (simp [*]; done), by repeat (first | exact Drawn0.refl _ | apply Drawn0.step)⟩

-- NOT PRINTED: function 67 (strconv_lower)

-- NOT PRINTED: function 68 (strconv_underscoreOK)

-- NOT PRINTED: function 57 (strconv_ParseUint)

-- NOT PRINTED: function 44 (strconv_ParseInt)

-- NOT PRINTED: function 32 (strconv_Atoi_32)

-- NOT PRINTED: function 58 (stringslite_Clone)

-- NOT PRINTED: function 45 (strconv_syntaxError)

-- NOT PRINTED: function 46 (strconv_rangeError)

-- NOT PRINTED: function 70 (strconv_small)

-- NOT PRINTED: function 76 (strconv_log10Pow2)

-- NOT PRINTED: function 77 (bits_Len64)

-- NOT PRINTED: function 78 (strconv_bool2_int)

-- NOT PRINTED: function 71 (strconv_numDigits)

-- NOT PRINTED: function 72 (strconv_formatBase10)

-- NOT PRINTED: function 79 (strconv_isPowerOfTwo)

-- NOT PRINTED: function 81 (bits_TrailingZeros32)

-- NOT PRINTED: function 82 (bits_TrailingZeros64)

-- NOT PRINTED: function 80 (bits_TrailingZeros)

-- NOT PRINTED: function 73 (strconv_formatBits)

-- NOT PRINTED: function 61 (strconv_FormatInt)

-- NOT PRINTED: function 52 (strconv_Itoa_52)

/-! ### strconv_Itoa: function 36, by the shelf's contract -/
theorem strconv_Itoa.grown (w : World) (k : Nat) (os : Array Obj) : Below w.heap.size w (Go.Sort.grow (w.drewN k) os) := ⟨rfl, rfl, rfl, by first | (simp [Go.Sort.grow]; done) | (simp [Go.Sort.grow]; omega), fun i hi => by
  show ((w.drewN k).heap ++ os)[i]? = _; rw [Array.getElem?_append_left (by show i < w.heap.size; omega)]
  rfl⟩
def strconv_Itoa.f (n : Int) : Option ByteArray := if -9223372036854775808 ≤ n then (if n ≤ 9223372036854775807 then some ⟨(Lib.itoa n).toArray⟩ else none) else none
theorem strconv_Itoa.calls (n : Int) (r : ByteArray) (w : World) (h : strconv_Itoa.f n = some r) (hT_ : TabW w) :
  Calls Tryd.prog 36 #[.int .i64 n] w fun e w' => e = .returned (.string r) ∧ Below w.heap.size w w' := by
 unfold strconv_Itoa.f at h
 by_cases h0 : -9223372036854775808 ≤ n
 · rw [if_pos h0] at h
   by_cases h1 : n ≤ 9223372036854775807
   · rw [if_pos h1] at h
     obtain rfl := Option.some.inj h; refine (Tryd.strconv_Itoa n h0 h1 w hT_.1).mono ?_; rintro e w' ⟨rfl, k, os, rfl⟩; exact ⟨rfl, strconv_Itoa.grown w k os⟩
   · rw [if_neg h1] at h
     exact absurd h (by simp)
 · rw [if_neg h0] at h
   exact absurd h (by simp)

-- NOT PRINTED: function 59 (errors_New)

-- NOT PRINTED: function 47 (strconv_baseError)

-- NOT PRINTED: function 48 (strconv_bitSizeError)

-- NOT PRINTED: function 33 (strconv_toError)

/-! ### strconv_Atoi: function 22, by the shelf's contract: the error is told as 'is there none' -/
def strconv_Atoi.f (s : ByteArray) : Option (Int × Bool) := if s.size ≤ 281474976710656 then some (match Lib.atoiAll s.data.toList with | .ok v => (v, true) | .«syntax» => (0, false) | .range => (Lib.atoiSat s.data.toList, false)) else none
theorem strconv_Atoi.calls (s : ByteArray) (r1 : Int) (r2 : Bool) (w : World) (h : strconv_Atoi.f s = some (r1, r2)) (hT_ : TabW w) :
  Calls Tryd.prog 22 #[.string s] w fun e w' => ∃ ev : Value, e = .returned (.tuple #[.int .i64 r1, ev]) ∧ (r2 = true → ev = .nilIface) ∧ (r2 = false → ∃ t b, ev = .iface t (.pointer (some ⟨b, 0, none⟩))) ∧ Below w.heap.size w w' := by
 unfold strconv_Atoi.f at h
 by_cases h0 : s.size ≤ 281474976710656
 · rw [if_pos h0] at h
   simp only [Option.some.injEq] at h
   cases ha : Lib.atoiAll s.data.toList with
   | ok v =>
     rw [ha] at h; simp only [Prod.mk.injEq] at h; obtain ⟨rfl, rfl⟩ := h; refine (Tryd.strconv_Atoi_ok s (by omega) v ha w).mono ?_; rintro e w' ⟨rfl, hw⟩; refine ⟨_, rfl, (fun _ => rfl), (fun h => by cases h), ?_⟩
     rcases hw with rfl | ⟨t, rfl⟩
     · exact Below.refl _ _
     · exact bytes_below (Below.refl _ _) (Nat.le_refl _) _ _
   | «syntax» =>
     rw [ha] at h; simp only [Prod.mk.injEq] at h; obtain ⟨rfl, rfl⟩ := h; obtain ⟨tp, p, hv⟩ := hT_.2.2.1; refine (Tryd.strconv_Atoi_syntax_var s h0 ha tp p w hv).mono ?_; rintro e w' ⟨N, rfl, _, _, hb⟩; exact ⟨_, rfl, (fun h => by cases h), (fun _ => ⟨_, _, rfl⟩), hb⟩
   | range =>
     rw [ha] at h; simp only [Prod.mk.injEq] at h; obtain ⟨rfl, rfl⟩ := h; obtain ⟨tp, p, hv⟩ := hT_.2.2.2; refine (Tryd.strconv_Atoi_range_var s h0 ha tp p w hv).mono ?_; rintro e w' ⟨N, rfl, _, _, hb⟩; exact ⟨_, rfl, (fun h => by cases h), (fun _ => ⟨_, _, rfl⟩), hb⟩
 · rw [if_neg h0] at h
   exact absurd h (by simp)

/-! ### stringslite_HasPrefix: function 49 -/
def stringslite_HasPrefix.f (a0 : ByteArray) (a1 : ByteArray) : Option (Bool) := if (a0.size : Int) ≥ (a1.size : Int) then (if 0 ≤ (a1.size : Int) then (if (a1.size : Int) ≤ (a0.size : Int) then (some ((a0.extract 0 ((a1.size : Int) : Int).toNat).toList == a1.toList)) else (none)) else (none)) else (some false)
set_option maxHeartbeats 8000000 in
set_option maxRecDepth 100000 in
theorem stringslite_HasPrefix.calls (a0 : ByteArray) (a1 : ByteArray) (r : Bool) (w : World) (h : stringslite_HasPrefix.f a0 a1 = some r) :
    Calls Tryd.prog 49 #[.string a0, .string a1] w fun e w' => e = .returned (.bool r) ∧ Drawn0 w w' := by
  have H : (if (a0.size : Int) ≥ (a1.size : Int) then (if 0 ≤ (a1.size : Int) then (if (a1.size : Int) ≤ (a0.size : Int) then (some ((a0.extract 0 ((a1.size : Int) : Int).toNat).toList == a1.toList)) else (none)) else (none)) else (some false)) = some r := h; clear h
  by_cases c3 : (a0.size : Int) ≥ (a1.size : Int)
  · rw [if_pos c3] at H
    have c3b0 : decide ((a1.size : Int) ≤ (a0.size : Int)) = true := decide_eq_true c3; have c3b1 : decide (a1.size ≤ a0.size) = true := decide_eq_true (Int.ofNat_le.mp c3); clear c3
    by_cases c4 : 0 ≤ (a1.size : Int)
    · rw [if_pos c4] at H
      have c4b0 := eq_true c4; have c4b1 : decide (0 ≤ (a1.size : Int)) = true := decide_eq_true c4; clear c4
      by_cases c5 : (a1.size : Int) ≤ (a0.size : Int)
      · rw [if_pos c5] at H
        have c5b0 := eq_true c5; have c5b1 : decide ((a1.size : Int) ≤ (a0.size : Int)) = true := decide_eq_true c5; clear c5; obtain rfl := Option.some.inj H
        go_enter Tryd.func49, Tryd.ntmps49
        go_wp2
        go_ret
        exact ⟨by first | rfl | (simp; done) | (simp [*]; done), by repeat (first | exact Drawn0.refl _ | apply Drawn0.step)⟩
      · rw [if_neg c5] at H
        exact absurd H (by simp)
    · rw [if_neg c4] at H
      exact absurd H (by simp)
  · rw [if_neg c3] at H
    have c3b0 : decide ((a1.size : Int) ≤ (a0.size : Int)) = false := decide_eq_false c3; have c3b1 : decide (a1.size ≤ a0.size) = false := decide_eq_false (fun h => c3 (Int.ofNat_le.mpr h)); clear c3; obtain rfl := Option.some.inj H
    go_enter Tryd.func49, Tryd.ntmps49
    go_wp2
    go_ret
    exact ⟨by first | rfl | (simp; done) | (simp [*]; done), by repeat (first | exact Drawn0.refl _ | apply Drawn0.step)⟩

/-! ### stringslite_TrimPrefix: function 34 -/
def stringslite_TrimPrefix.f (a0 : ByteArray) (a1 : ByteArray) : Option (ByteArray) := (stringslite_HasPrefix.f a0 a1).bind fun bi => (if bi = true then (if 0 ≤ (a1.size : Int) then (if (a1.size : Int) ≤ (a0.size : Int) then (some (a0.extract ((a1.size : Int) : Int).toNat a0.size)) else (none)) else (none)) else (some a0))
set_option maxHeartbeats 8000000 in
set_option maxRecDepth 100000 in
theorem stringslite_TrimPrefix.calls (a0 : ByteArray) (a1 : ByteArray) (r : ByteArray) (w : World) (h : stringslite_TrimPrefix.f a0 a1 = some r) :
    Calls Tryd.prog 34 #[.string a0, .string a1] w fun e w' => e = .returned (.string r) ∧ Drawn0 w w' := by
  have H : ((stringslite_HasPrefix.f a0 a1).bind fun bi => (if bi = true then (if 0 ≤ (a1.size : Int) then (if (a1.size : Int) ≤ (a0.size : Int) then (some (a0.extract ((a1.size : Int) : Int).toNat a0.size)) else (none)) else (none)) else (some a0))) = some r := h; clear h; replace H := Option.bind_eq_some_iff.mp H; obtain ⟨bi, A30, H⟩ := H; replace H : (if bi = true then (if 0 ≤ (a1.size : Int) then (if (a1.size : Int) ≤ (a0.size : Int) then (some (a0.extract ((a1.size : Int) : Int).toNat a0.size)) else (none)) else (none)) else (some a0)) = some r := H; have A3 := Aside0.mk A30; clear A30
  by_cases c4 : bi = true
  · subst c4
    have H1 : (if 0 ≤ (a1.size : Int) then (if (a1.size : Int) ≤ (a0.size : Int) then (some (a0.extract ((a1.size : Int) : Int).toNat a0.size)) else (none)) else (none)) = some r := by rw [if_pos rfl] at H; exact H
    clear H; have H := H1; clear H1
    by_cases c5 : 0 ≤ (a1.size : Int)
    · rw [if_pos c5] at H
      have c5b0 := eq_true c5; have c5b1 : decide (0 ≤ (a1.size : Int)) = true := decide_eq_true c5; clear c5
      by_cases c6 : (a1.size : Int) ≤ (a0.size : Int)
      · rw [if_pos c6] at H
        have c6b0 := eq_true c6; have c6b1 : decide ((a1.size : Int) ≤ (a0.size : Int)) = true := decide_eq_true c6; clear c6; obtain rfl := Option.some.inj H
        go_enter Tryd.func34, Tryd.ntmps34
        go_wp2_with (first | ((with_reducible refine gate_callee (f := 49) rfl ?_); refine goesM (some 7) rfl rfl Tryd.func49 (by kernel_rfl) rfl #[.string a0, .string a1] rfl ?_; (with_reducible refine (stringslite_HasPrefix.calls a0 a1 true _ A3.out).mono ?_); rintro e w' ⟨rfl, ⟨nd, rfl⟩⟩; refine ⟨_, rfl, ?_⟩))
        go_ret
        exact ⟨by first | rfl | (simp; done) | (simp [*]; done), by repeat (first | exact Drawn0.refl _ | apply Drawn0.step)⟩
      · rw [if_neg c6] at H
        exact absurd H (by simp)
    · rw [if_neg c5] at H
      exact absurd H (by simp)
  · replace c4 := Bool.eq_false_iff.mpr c4
    subst c4; have H1 : (some a0) = some r := by rw [if_neg (show ¬ (false = true) by decide)] at H; exact H
    clear H; have H := H1; clear H1; obtain rfl := Option.some.inj H
    go_enter Tryd.func34, Tryd.ntmps34
    go_wp2_with (first | ((with_reducible refine gate_callee (f := 49) rfl ?_); refine goesM (some 7) rfl rfl Tryd.func49 (by kernel_rfl) rfl #[.string a0, .string a1] rfl ?_; (with_reducible refine (stringslite_HasPrefix.calls a0 a1 false _ A3.out).mono ?_); rintro e w' ⟨rfl, ⟨nd, rfl⟩⟩; refine ⟨_, rfl, ?_⟩))
    go_ret
    exact ⟨by first | rfl | (simp; done) | (simp [*]; done), by repeat (first | exact Drawn0.refl _ | apply Drawn0.step)⟩

/-! ### strings_TrimPrefix: function 23 -/
def strings_TrimPrefix.f (a0 : ByteArray) (a1 : ByteArray) : Option (ByteArray) := (stringslite_TrimPrefix.f a0 a1).bind fun bj => (some bj)
set_option maxHeartbeats 8000000 in
set_option maxRecDepth 100000 in
theorem strings_TrimPrefix.calls (a0 : ByteArray) (a1 : ByteArray) (r : ByteArray) (w : World) (h : strings_TrimPrefix.f a0 a1 = some r) :
    Calls Tryd.prog 23 #[.string a0, .string a1] w fun e w' => e = .returned (.string r) ∧ Drawn0 w w' := by
  have H : ((stringslite_TrimPrefix.f a0 a1).bind fun bj => (some bj)) = some r := h; clear h; replace H := Option.bind_eq_some_iff.mp H; obtain ⟨bj, A30, H⟩ := H; replace H : (some bj) = some r := H; have A3 := Aside0.mk A30; clear A30; obtain rfl := Option.some.inj H
  go_enter Tryd.func23, Tryd.ntmps23
  go_wp2_with (first | ((with_reducible refine gate_callee (f := 34) rfl ?_); refine goesM (some 7) rfl rfl Tryd.func34 (by kernel_rfl) rfl #[.string a0, .string a1] rfl ?_; (with_reducible refine (stringslite_TrimPrefix.calls a0 a1 bj _ A3.out).mono ?_); rintro e w' ⟨rfl, ⟨nd, rfl⟩⟩; refine ⟨_, rfl, ?_⟩))
  go_ret
  exact ⟨by first | rfl | (simp; done) | (simp [*]; done), by repeat (first | exact Drawn0.refl _ | apply Drawn0.step)⟩

/-! ### impl_withPart: function 24 -/
def impl_withPart.f (a0_0 : Int) (a0_1 : Int) (a0_2 : Int) (a0_3 : Int) (a0_4 : Int) (a1 : Int) (a2 : Int) : Option (Int × Int × Int × Int × Int) := if a1 = 82 then (some (a0_0, a2, a0_2, a0_3, a0_4)) else (if a1 = 65 then (some (a0_0, a0_1, a2, a0_3, a0_4)) else (if a1 = 66 then (some (a0_0, a0_1, a0_2, a2, a0_4)) else (if a1 = 78 then (some (a0_0, a0_1, a0_2, a0_3, a2)) else (some (a0_0, a0_1, a0_2, a0_3, a0_4)))))
set_option maxHeartbeats 8000000 in
set_option maxRecDepth 100000 in
theorem impl_withPart.calls (a0_0 : Int) (a0_1 : Int) (a0_2 : Int) (a0_3 : Int) (a0_4 : Int) (a1 : Int) (a2 : Int) (r1 : Int) (r2 : Int) (r3 : Int) (r4 : Int) (r5 : Int) (w : World) (h : impl_withPart.f a0_0 a0_1 a0_2 a0_3 a0_4 a1 a2 = some (r1, r2, r3, r4, r5)) :
    Calls Tryd.prog 24 #[.agg #[.int .i64 a0_0, .int .i64 a0_1, .int .i64 a0_2, .int .i64 a0_3, .int .i64 a0_4], .int .u8 a1, .int .i64 a2] w fun e w' => e = .returned (.agg #[.int .i64 r1, .int .i64 r2, .int .i64 r3, .int .i64 r4, .int .i64 r5]) ∧ Below w.heap.size w w' := by
  have hu23 := Tryd.underlying23; have HB := Aside0.mk (Below.refl w.heap.size w); have H : (if a1 = 82 then (some (a0_0, a2, a0_2, a0_3, a0_4)) else (if a1 = 65 then (some (a0_0, a0_1, a2, a0_3, a0_4)) else (if a1 = 66 then (some (a0_0, a0_1, a0_2, a2, a0_4)) else (if a1 = 78 then (some (a0_0, a0_1, a0_2, a0_3, a2)) else (some (a0_0, a0_1, a0_2, a0_3, a0_4)))))) = some (r1, r2, r3, r4, r5) := h; clear h
  by_cases c4 : a1 = 82
  · rw [if_pos c4] at H
    have c4b0 : (a1 == 82) = true := beq_iff_eq.mpr c4; have c4b1 : (a1 != 82) = false := bne_eq_false_iff_eq.mpr c4; clear c4; simp only [Option.some.injEq, Prod.mk.injEq] at H; obtain ⟨rfl, rfl, rfl, rfl, rfl⟩ := H
    go_enter Tryd.func24, Tryd.ntmps24
    go_wp2_with (first | ((with_reducible refine gate_dst (N := 3) rfl ?_); refine bxe 3 #[.int .i64 a0_0, .int .i64 a0_1, .int .i64 a0_2, .int .i64 a0_3, .int .i64 a0_4] 23 ?_; intro bn hg w5 hbox hb; have ba := hbox; have bo := nge HB hg; have bp := nge HB hg; replace HB := nbs HB hb; clear hb hbox hg) | ((with_reducible refine gate_dst (N := 6) rfl ?_); refine bxe 6 #[.int .i64 0, .int .i64 0, .int .i64 0, .int .i64 0, .int .i64 0] 23 ?_; intro bg hg w6 hbox hb; have bb := hbox; have bq := nge HB hg; have br := nge HB hg; have bh := nlt ba hg; have bd := ngt ba hg; replace ba := nblk ba hb; replace HB := nbs HB hb; clear hb hbox hg; have bT := bh.out; have bU := bd.out; obtain ⟨bF, bG, bH, bI, bJ⟩ := c5e ba; obtain ⟨bK, bL, bM, bN, bO⟩ := z5_ ba; obtain ⟨bV, bW, bX, bY, bZ⟩ := c5e bb; obtain ⟨b0, b1, b2, b3, b4⟩ := z5_ bb))
    refine bodyPost_ret (results_cell_row rfl _ _ bg 23 #[.int .i64 a0_0, .int .i64 a2, .int .i64 a0_2, .int .i64 a0_3, .int .i64 a0_4] (0, 0) _ rfl (p5 bb (k1_ bd.out (nb bb))) Tryd.underlying23 rfl (by kernel_rfl)) rfl ?_; exact ⟨er_, nbe HB⟩
  · rw [if_neg c4] at H
    have c4b0 : (a1 == 82) = false := beq_eq_false_iff_ne.mpr c4; have c4b1 : (a1 != 82) = true := bne_iff_ne.mpr c4
    by_cases c10 : a1 = 65
    · rw [if_pos c10] at H
      have c10b0 : (a1 == 65) = true := beq_iff_eq.mpr c10; have c10b1 : (a1 != 65) = false := bne_eq_false_iff_eq.mpr c10; clear c10; simp only [Option.some.injEq, Prod.mk.injEq] at H; obtain ⟨rfl, rfl, rfl, rfl, rfl⟩ := H
      go_enter Tryd.func24, Tryd.ntmps24
      go_wp2_with (first | ((with_reducible refine gate_dst (N := 3) rfl ?_); refine bxe 3 #[.int .i64 a0_0, .int .i64 a0_1, .int .i64 a0_2, .int .i64 a0_3, .int .i64 a0_4] 23 ?_; intro bn hg b5 hbox hb; have ba := hbox; have bo := nge HB hg; have bp := nge HB hg; replace HB := nbs HB hb; clear hb hbox hg) | ((with_reducible refine gate_dst (N := 6) rfl ?_); refine bxe 6 #[.int .i64 0, .int .i64 0, .int .i64 0, .int .i64 0, .int .i64 0] 23 ?_; intro bg hg bP hbox hb; have bb := hbox; have bq := nge HB hg; have br := nge HB hg; have bh := nlt ba hg; have bd := ngt ba hg; replace ba := nblk ba hb; replace HB := nbs HB hb; clear hb hbox hg; have b6 := bh.out; have b7 := bd.out; obtain ⟨b8, b9, da, db, dc⟩ := c5e ba; obtain ⟨dd, de, df, dg, dh⟩ := z5_ ba; obtain ⟨di, dj, dk, dl, dm⟩ := c5e bb; obtain ⟨dn, dp, dq, dr, ds⟩ := z5_ bb))
      refine bodyPost_ret (results_cell_row rfl _ _ bg 23 #[.int .i64 a0_0, .int .i64 a0_1, .int .i64 a2, .int .i64 a0_3, .int .i64 a0_4] (0, 0) _ rfl (p5 bb (k1_ bd.out (nb bb))) Tryd.underlying23 rfl (by kernel_rfl)) rfl ?_; exact ⟨er_, nbe HB⟩
    · rw [if_neg c10] at H
      have c10b0 : (a1 == 65) = false := beq_eq_false_iff_ne.mpr c10; have c10b1 : (a1 != 65) = true := bne_iff_ne.mpr c10
      by_cases c16 : a1 = 66
      · rw [if_pos c16] at H
        have c16b0 : (a1 == 66) = true := beq_iff_eq.mpr c16; have c16b1 : (a1 != 66) = false := bne_eq_false_iff_eq.mpr c16; clear c16; simp only [Option.some.injEq, Prod.mk.injEq] at H; obtain ⟨rfl, rfl, rfl, rfl, rfl⟩ := H
        go_enter Tryd.func24, Tryd.ntmps24
        go_wp2_with (first | ((with_reducible refine gate_dst (N := 3) rfl ?_); refine bxe 3 #[.int .i64 a0_0, .int .i64 a0_1, .int .i64 a0_2, .int .i64 a0_3, .int .i64 a0_4] 23 ?_; intro bn hg dt hbox hb; have ba := hbox; have bo := nge HB hg; have bp := nge HB hg; replace HB := nbs HB hb; clear hb hbox hg) | ((with_reducible refine gate_dst (N := 6) rfl ?_); refine bxe 6 #[.int .i64 0, .int .i64 0, .int .i64 0, .int .i64 0, .int .i64 0] 23 ?_; intro bg hg du hbox hb; have bb := hbox; have bq := nge HB hg; have br := nge HB hg; have bh := nlt ba hg; have bd := ngt ba hg; replace ba := nblk ba hb; replace HB := nbs HB hb; clear hb hbox hg; have dv := bh.out; have dw := bd.out; obtain ⟨dx, dy, dz, dA, dB⟩ := c5e ba; obtain ⟨dC, dD, dE, dF, dG⟩ := z5_ ba; obtain ⟨dH, dI, dJ, dK, dL⟩ := c5e bb; obtain ⟨dM, dN, dO, dP, dQ⟩ := z5_ bb))
        refine bodyPost_ret (results_cell_row rfl _ _ bg 23 #[.int .i64 a0_0, .int .i64 a0_1, .int .i64 a0_2, .int .i64 a2, .int .i64 a0_4] (0, 0) _ rfl (p5 bb (k1_ bd.out (nb bb))) Tryd.underlying23 rfl (by kernel_rfl)) rfl ?_; exact ⟨er_, nbe HB⟩
      · rw [if_neg c16] at H
        have c16b0 : (a1 == 66) = false := beq_eq_false_iff_ne.mpr c16; have c16b1 : (a1 != 66) = true := bne_iff_ne.mpr c16
        by_cases c22 : a1 = 78
        · rw [if_pos c22] at H
          have c22b0 : (a1 == 78) = true := beq_iff_eq.mpr c22; have c22b1 : (a1 != 78) = false := bne_eq_false_iff_eq.mpr c22; clear c22; simp only [Option.some.injEq, Prod.mk.injEq] at H; obtain ⟨rfl, rfl, rfl, rfl, rfl⟩ := H
          go_enter Tryd.func24, Tryd.ntmps24
          go_wp2_with (first | ((with_reducible refine gate_dst (N := 3) rfl ?_); refine bxe 3 #[.int .i64 a0_0, .int .i64 a0_1, .int .i64 a0_2, .int .i64 a0_3, .int .i64 a0_4] 23 ?_; intro bn hg dR hbox hb; have ba := hbox; have bo := nge HB hg; have bp := nge HB hg; replace HB := nbs HB hb; clear hb hbox hg) | ((with_reducible refine gate_dst (N := 6) rfl ?_); refine bxe 6 #[.int .i64 0, .int .i64 0, .int .i64 0, .int .i64 0, .int .i64 0] 23 ?_; intro bg hg dS hbox hb; have bb := hbox; have bq := nge HB hg; have br := nge HB hg; have bh := nlt ba hg; have bd := ngt ba hg; replace ba := nblk ba hb; replace HB := nbs HB hb; clear hb hbox hg; have dT := bh.out; have dU := bd.out; obtain ⟨dV, dW, dX, dY, dZ⟩ := c5e ba; obtain ⟨d0, d1, d2, d3, d4⟩ := z5_ ba; obtain ⟨d5, d6, d7, d8, d9⟩ := c5e bb; obtain ⟨ea, eb, ec, ed, ee⟩ := z5_ bb))
          refine bodyPost_ret (results_cell_row rfl _ _ bg 23 #[.int .i64 a0_0, .int .i64 a0_1, .int .i64 a0_2, .int .i64 a0_3, .int .i64 a2] (0, 0) _ rfl (p5 bb (k1_ bd.out (nb bb))) Tryd.underlying23 rfl (by kernel_rfl)) rfl ?_; exact ⟨er_, nbe HB⟩
        · rw [if_neg c22] at H
          have c22b0 : (a1 == 78) = false := beq_eq_false_iff_ne.mpr c22; have c22b1 : (a1 != 78) = true := bne_iff_ne.mpr c22; simp only [Option.some.injEq, Prod.mk.injEq] at H; obtain ⟨rfl, rfl, rfl, rfl, rfl⟩ := H
          go_enter Tryd.func24, Tryd.ntmps24
          go_wp2_with (first | ((with_reducible refine gate_dst (N := 3) rfl ?_); refine bxe 3 #[.int .i64 a0_0, .int .i64 a0_1, .int .i64 a0_2, .int .i64 a0_3, .int .i64 a0_4] 23 ?_; intro bn hg ef hbox hb; have ba := hbox; have bo := nge HB hg; have bp := nge HB hg; replace HB := nbs HB hb; clear hb hbox hg) | ((with_reducible refine gate_dst (N := 6) rfl ?_); refine bxe 6 #[.int .i64 0, .int .i64 0, .int .i64 0, .int .i64 0, .int .i64 0] 23 ?_; intro bg hg eg hbox hb; have bb := hbox; have bq := nge HB hg; have br := nge HB hg; have bh := nlt ba hg; have bd := ngt ba hg; replace ba := nblk ba hb; replace HB := nbs HB hb; clear hb hbox hg; have eh := bh.out; have ei := bd.out; obtain ⟨ej, ek, el, em, en⟩ := c5e ba; obtain ⟨eo, ep, er, es, et⟩ := z5_ ba; obtain ⟨eu, ew, ex, ey, ez⟩ := c5e bb; obtain ⟨eA, eB, eC, eD, eE⟩ := z5_ bb))
          refine bodyPost_ret (results_cell_row rfl _ _ bg 23 #[.int .i64 a0_0, .int .i64 a0_1, .int .i64 a0_2, .int .i64 a0_3, .int .i64 a0_4] (0, 0) _ rfl (q5 bb) Tryd.underlying23 rfl (by kernel_rfl)) rfl ?_; exact ⟨er_, nbe HB⟩

/-! ### impl_partOf: function 37 -/
def impl_partOf.f (a0_0 : Int) (a0_1 : Int) (a0_2 : Int) (a0_3 : Int) (a0_4 : Int) (a1 : Int) : Option (Int) := if a1 = 82 then (some a0_1) else (if a1 = 65 then (some a0_2) else (if a1 = 66 then (some a0_3) else (some a0_4)))
set_option maxHeartbeats 8000000 in
set_option maxRecDepth 100000 in
theorem impl_partOf.calls (a0_0 : Int) (a0_1 : Int) (a0_2 : Int) (a0_3 : Int) (a0_4 : Int) (a1 : Int) (r : Int) (w : World) (h : impl_partOf.f a0_0 a0_1 a0_2 a0_3 a0_4 a1 = some r) :
    Calls Tryd.prog 37 #[.agg #[.int .i64 a0_0, .int .i64 a0_1, .int .i64 a0_2, .int .i64 a0_3, .int .i64 a0_4], .int .u8 a1] w fun e w' => e = .returned (.int .i64 r) ∧ Below w.heap.size w w' := by
  have hu23 := Tryd.underlying23; have HB := Aside0.mk (Below.refl w.heap.size w); have H : (if a1 = 82 then (some a0_1) else (if a1 = 65 then (some a0_2) else (if a1 = 66 then (some a0_3) else (some a0_4)))) = some r := h; clear h
  by_cases c3 : a1 = 82
  · rw [if_pos c3] at H
    have c3b0 : (a1 == 82) = true := beq_iff_eq.mpr c3; have c3b1 : (a1 != 82) = false := bne_eq_false_iff_eq.mpr c3; clear c3; obtain rfl := Option.some.inj H
    go_enter Tryd.func37, Tryd.ntmps37
    go_wp2_with (first | ((with_reducible refine gate_dst (N := 2) rfl ?_); refine bxe 2 #[.int .i64 a0_0, .int .i64 a0_1, .int .i64 a0_2, .int .i64 a0_3, .int .i64 a0_4] 23 ?_; intro bx hg w4 hbox hb; have bf := hbox; have bz := nge HB hg; have bA := nge HB hg; replace HB := nbs HB hb; clear hb hbox hg; obtain ⟨eF, eG, eH, eI, eJ⟩ := c5e bf; obtain ⟨eK, eL, eM, eN, eO⟩ := z5_ bf))
    go_ret
    exact ⟨er_, nbe HB⟩
  · rw [if_neg c3] at H
    have c3b0 : (a1 == 82) = false := beq_eq_false_iff_ne.mpr c3; have c3b1 : (a1 != 82) = true := bne_iff_ne.mpr c3
    by_cases c6 : a1 = 65
    · rw [if_pos c6] at H
      have c6b0 : (a1 == 65) = true := beq_iff_eq.mpr c6; have c6b1 : (a1 != 65) = false := bne_eq_false_iff_eq.mpr c6; clear c6; obtain rfl := Option.some.inj H
      go_enter Tryd.func37, Tryd.ntmps37
      go_wp2_with (first | ((with_reducible refine gate_dst (N := 2) rfl ?_); refine bxe 2 #[.int .i64 a0_0, .int .i64 a0_1, .int .i64 a0_2, .int .i64 a0_3, .int .i64 a0_4] 23 ?_; intro bx hg w7 hbox hb; have bf := hbox; have bz := nge HB hg; have bA := nge HB hg; replace HB := nbs HB hb; clear hb hbox hg; obtain ⟨bF, bG, bH, bI, bJ⟩ := c5e bf; obtain ⟨bK, bL, bM, bN, bO⟩ := z5_ bf))
      go_ret
      exact ⟨er_, nbe HB⟩
    · rw [if_neg c6] at H
      have c6b0 : (a1 == 65) = false := beq_eq_false_iff_ne.mpr c6; have c6b1 : (a1 != 65) = true := bne_iff_ne.mpr c6
      by_cases c9 : a1 = 66
      · rw [if_pos c9] at H
        have c9b0 : (a1 == 66) = true := beq_iff_eq.mpr c9; have c9b1 : (a1 != 66) = false := bne_eq_false_iff_eq.mpr c9; clear c9; obtain rfl := Option.some.inj H
        go_enter Tryd.func37, Tryd.ntmps37
        go_wp2_with (first | ((with_reducible refine gate_dst (N := 2) rfl ?_); refine bxe 2 #[.int .i64 a0_0, .int .i64 a0_1, .int .i64 a0_2, .int .i64 a0_3, .int .i64 a0_4] 23 ?_; intro bx hg eP hbox hb; have bf := hbox; have bz := nge HB hg; have bA := nge HB hg; replace HB := nbs HB hb; clear hb hbox hg; obtain ⟨eQ, eR, eS, eT, eU⟩ := c5e bf; obtain ⟨eV, eW, eX, eY, eZ⟩ := z5_ bf))
        go_ret
        exact ⟨er_, nbe HB⟩
      · rw [if_neg c9] at H
        have c9b0 : (a1 == 66) = false := beq_eq_false_iff_ne.mpr c9; have c9b1 : (a1 != 66) = true := bne_iff_ne.mpr c9; obtain rfl := Option.some.inj H
        go_enter Tryd.func37, Tryd.ntmps37
        go_wp2_with (first | ((with_reducible refine gate_dst (N := 2) rfl ?_); refine bxe 2 #[.int .i64 a0_0, .int .i64 a0_1, .int .i64 a0_2, .int .i64 a0_3, .int .i64 a0_4] 23 ?_; intro bx hg bP hbox hb; have bf := hbox; have bz := nge HB hg; have bA := nge HB hg; replace HB := nbs HB hb; clear hb hbox hg; obtain ⟨e0, e1, e2, e3, e4⟩ := c5e bf; obtain ⟨e5, e6, e7, e8, e9⟩ := z5_ bf))
        go_ret
        exact ⟨er_, nbe HB⟩

/-! ### slices_Index_byte_byte: function 69 -/
def slices_Index_byte_byte.l0 : Nat → List Int → Int → Int → Int → Option (Int)
  | 0, _, _, _, _ => none
  | k + 1, x0, x1, x7, x8 => if x8 < x7 then (if 0 ≤ x8 then (if x8 < (x0.length : Int) then (if x1 = (rd x0 x8) then (some x8) else (slices_Index_byte_byte.l0 k x0 x1 x7 (wrap64 (x8 + 1)))) else (none)) else (none)) else (some (-1))
def slices_Index_byte_byte.f (k : Nat) (l0 : List Int) (a1 : Int) : Option (Int) := slices_Index_byte_byte.l0 k l0 a1 (l0.length : Int) 0
theorem slices_Index_byte_byte.mono_l : ∀ k, (∀ y0 y1 y2 y3, LeO (slices_Index_byte_byte.l0 k y0 y1 y2 y3) (slices_Index_byte_byte.l0 (k + 1) y0 y1 y2 y3))
  | 0 => fun _ _ _ _ r h => by simp [slices_Index_byte_byte.l0] at h
  | k + 1 => by
    have ih0 := slices_Index_byte_byte.mono_l k
    · intro y0 y1 y2 y3
      unfold slices_Index_byte_byte.l0
      repeat' first
      | (with_reducible exact ih0 _ _ _ _)
      | (with_reducible exact LeO.refl _)
      | (with_reducible exact LeO.none _)
      | (with_reducible refine LeO.ite ?_ ?_)
      | (with_reducible refine LeO.bind ?_ (fun _ => ?_))
      | exact ih0 _ _ _ _
      | exact LeO.none _
      | refine LeO.ite ?_ ?_
      | refine LeO.bind ?_ (fun _ => ?_)
theorem slices_Index_byte_byte.mono : ∀ a0 a1 k, LeO (slices_Index_byte_byte.f k a0 a1) (slices_Index_byte_byte.f (k + 1) a0 a1) := by
  intro a0 a1 k; have ih0 := slices_Index_byte_byte.mono_l k
  unfold slices_Index_byte_byte.f
  repeat' first
      | (with_reducible exact ih0 _ _ _ _)
      | (with_reducible exact LeO.refl _)
      | (with_reducible exact LeO.none _)
      | (with_reducible refine LeO.ite ?_ ?_)
      | (with_reducible refine LeO.bind ?_ (fun _ => ?_))
      | exact ih0 _ _ _ _
      | exact LeO.none _
      | refine LeO.ite ?_ ?_
      | refine LeO.bind ?_ (fun _ => ?_)
set_option maxHeartbeats 8000000 in
set_option maxRecDepth 100000 in
theorem slices_Index_byte_byte.calls (k : Nat) (A0 : Option Addr) (c0 : Nat) (l0 : List Int) (a1 : Int) (r : Int) (w : World) (hr0 : Kd.C (Kd.int .u8) w A0 l0.length l0) (hc0 : l0.length ≤ c0) (h : slices_Index_byte_byte.f k l0 a1 = some r) :
    Calls Tryd.prog 69 #[.slice A0 l0.length c0, .int .u8 a1] w fun e w' => e = .returned (.int .i64 r) ∧ Drawn0 w w' := by
  have bs := Aside0.mk hr0; have bB := Aside0.mk hc0; clear hr0 hc0; have H : (slices_Index_byte_byte.l0 k l0 a1 (l0.length : Int) 0) = some r := h; clear h; have H' := Aside0.mk H; clear H
  go_enter Tryd.func69, Tryd.ntmps69
  go_wp2
  go_loopg [8] k (fun kq v8 w' => ∃ (bc : Int), v8 = .int .i64 bc ∧ Aside0 (slices_Index_byte_byte.l0 kq l0 a1 (l0.length : Int) bc = some r) ∧ Aside0 (kq ≤ k) ∧ Drawn0 w w')
  case atStart => exact ⟨(0), (by first | rfl | (simp; done) | (simp [*]; done)), H', ⟨Nat.le_refl _⟩, by repeat (first | exact Drawn0.refl _ | apply Drawn0.step)⟩
  case round =>
    clear H'; try clear p2
    obtain ⟨bc, rfl, HA, bC, ⟨m1, rfl⟩⟩ := hrel
    cases gk with
    | zero => exact absurd HA.out (by simp [slices_Index_byte_byte.l0])
    | succ k1 =>
      have H := HA.out; clear HA; simp only [slices_Index_byte_byte.l0] at H
      by_cases c3 : bc < (l0.length : Int)
      · rw [if_pos c3] at H
        have c3b0 : decide (bc < (l0.length : Int)) = true := decide_eq_true c3; clear c3
        by_cases c4 : 0 ≤ bc
        · rw [if_pos c4] at H
          have c4b0 : decide (0 ≤ bc) = true := decide_eq_true c4; clear c4
          by_cases c5 : bc < (l0.length : Int)
          · rw [if_pos c5] at H
            have c5b0 : decide (bc < (l0.length : Int)) = true := decide_eq_true c5; clear c5
            by_cases c6 : a1 = (rd l0 bc)
            · rw [if_pos c6] at H
              have c6b0 : (a1 == (rd l0 bc)) = true := beq_iff_eq.mpr c6; have c6b1 : (a1 != (rd l0 bc)) = false := bne_eq_false_iff_eq.mpr c6; clear c6; obtain rfl := Option.some.inj H; have p204 : 0 ≤ (bc : Int) := of_decide_eq_true (by first | (with_reducible assumption) | assumption); have q204 : bc < (l0.length : Int) := of_decide_eq_true (by first | (with_reducible assumption) | assumption); obtain ⟨bQ, e204, bR⟩ := Kd.at_int bs.out bc p204 q204
              cases e204
              replace p204 := eq_true p204; replace q204 := eq_true q204; go_wp2
              go_ret
              exact ⟨by first | rfl | (simp; done) | (simp [*]; done), by repeat (first | exact Drawn0.refl _ | apply Drawn0.step)⟩
            · rw [if_neg c6] at H
              have c6b0 : (a1 == (rd l0 bc)) = false := beq_eq_false_iff_ne.mpr c6; have c6b1 : (a1 != (rd l0 bc)) = true := bne_iff_ne.mpr c6; have H' := Aside0.mk H; clear H; have p204 : 0 ≤ (bc : Int) := of_decide_eq_true (by first | (with_reducible assumption) | assumption); have q204 : bc < (l0.length : Int) := of_decide_eq_true (by first | (with_reducible assumption) | assumption); obtain ⟨bQ, e204, bR⟩ := Kd.at_int bs.out bc p204 q204
              cases e204
              replace p204 := eq_true p204; replace q204 := eq_true q204; go_wp2
              go_roundg k1
              case measure => have := bC.out; omega
              case rel => exact ⟨(wrap64 (bc + 1)), (by first | rfl | (simp; done) | (simp [*]; done)), H', ⟨by have := bC.out; omega⟩, by repeat (first | exact Drawn0.refl _ | apply Drawn0.step)⟩
          · rw [if_neg c5] at H
            exact absurd H (by simp)
        · rw [if_neg c4] at H
          exact absurd H (by simp)
      · rw [if_neg c3] at H
        have c3b0 : decide (bc < (l0.length : Int)) = false := decide_eq_false c3; clear c3; obtain rfl := Option.some.inj H; go_wp2
        go_ret
        exact ⟨by first | rfl | (simp; done) | (simp [*]; done), by repeat (first | exact Drawn0.refl _ | apply Drawn0.step)⟩

/-! ### slices_Contains_byte_byte: function 60 -/
def slices_Contains_byte_byte.f (k : Nat) (l0 : List Int) (a1 : Int) : Option (Bool) := (slices_Index_byte_byte.f k l0 a1).bind fun bk => (some (decide (bk ≥ 0)))
theorem slices_Contains_byte_byte.mono : ∀ a0 a1 k, LeO (slices_Contains_byte_byte.f k a0 a1) (slices_Contains_byte_byte.f (k + 1) a0 a1) := by
  intro a0 a1 k
  unfold slices_Contains_byte_byte.f
  repeat' first
      | (with_reducible exact slices_Index_byte_byte.mono _ _ _)
      | (with_reducible exact LeO.refl _)
      | (with_reducible exact LeO.none _)
      | (with_reducible refine LeO.ite ?_ ?_)
      | (with_reducible refine LeO.bind ?_ (fun _ => ?_))
      | exact slices_Index_byte_byte.mono _ _ _
      | exact LeO.none _
      | refine LeO.ite ?_ ?_
      | refine LeO.bind ?_ (fun _ => ?_)
set_option maxHeartbeats 8000000 in
set_option maxRecDepth 100000 in
theorem slices_Contains_byte_byte.calls (k : Nat) (A0 : Option Addr) (c0 : Nat) (l0 : List Int) (a1 : Int) (r : Bool) (w : World) (hr0 : Kd.C (Kd.int .u8) w A0 l0.length l0) (hc0 : l0.length ≤ c0) (h : slices_Contains_byte_byte.f k l0 a1 = some r) :
    Calls Tryd.prog 60 #[.slice A0 l0.length c0, .int .u8 a1] w fun e w' => e = .returned (.bool r) ∧ Drawn0 w w' := by
  have bs := Aside0.mk hr0; have bB := Aside0.mk hc0; clear hr0 hc0; have H : ((slices_Index_byte_byte.f k l0 a1).bind fun bk => (some (decide (bk ≥ 0)))) = some r := h; clear h; replace H := Option.bind_eq_some_iff.mp H; obtain ⟨bk, A30, H⟩ := H; replace H : (some (decide (bk ≥ 0))) = some r := H; have A3 := Aside0.mk A30; clear A30; obtain rfl := Option.some.inj H
  go_enter Tryd.func60, Tryd.ntmps60
  go_wp2_with (first | ((with_reducible refine gate_callee (f := 69) rfl ?_); refine goesM (some 7) rfl rfl Tryd.func69 (by kernel_rfl) rfl #[.slice A0 l0.length c0, .int .u8 a1] rfl ?_; (with_reducible refine (slices_Index_byte_byte.calls k _ _ l0 a1 bk _ ?side1 ?side2 A3.out).mono ?_); (case side1 => exact nC bs); (case side2 => exact bB.out); rintro e w' ⟨rfl, ⟨nd, rfl⟩⟩; refine ⟨_, rfl, ?_⟩))
  go_ret
  exact ⟨by first | rfl | (simp; done) | (simp [*]; done), by repeat (first | exact Drawn0.refl _ | apply Drawn0.step)⟩

/-! ### impl_hasPart: function 50 -/
theorem impl_hasPart.reads (W : World) (s : ByteArray) (g : Nat) (hg : g = W.heap.size) (hs : s.size ≤ 9223372036854775807) : Kd.C (Kd.int .u8) (Lib.bytesWorld W 5 s) (some ⟨g, 0, none⟩) s.size (bytesOf s) := by
  subst hg; obtain ⟨h1, h2, h3⟩ := bytes_reads W 5 s hs; refine ⟨h1, h2, fun hp => ?_⟩; obtain ⟨ad, e, hc⟩ := h3 hp; refine ⟨ad, e, fun j p hj => ⟨[.int .u8 p], rfl, rfl, fun i u hu => ?_⟩⟩
  have hi : i = 0 := by
    cases i with
    | zero => rfl
    | succ i => simp at hu
  subst hi; obtain rfl : Value.int .u8 p = u := by simpa using hu
  have hjl : j < s.size := by
    rw [← h1]; exact (List.getElem?_eq_some_iff.1 hj).1
  have h4 := hc j hjl; rw [List.getD_eq_getElem?_getD, hj] at h4; have h5 : j * (Kd.int .u8).sz + 0 = j := Nat.mul_one j; rw [h5]; exact h4
def impl_hasPart.f (k : Nat) (a0_0 : Int) (a0_1 : Int) (a0_2 : Int) (a0_3 : Int) (a0_4 : Int) (a1 : Int) : Option (Bool) := (impl_formOf.f k a0_0).bind fun bt => (if bt.1.size ≤ 9223372036854775807 then slices_Contains_byte_byte.f k (bytesOf bt.1) a1 else none)
theorem impl_hasPart.mono : ∀ a0 a1 a2 a3 a4 a5 k, LeO (impl_hasPart.f k a0 a1 a2 a3 a4 a5) (impl_hasPart.f (k + 1) a0 a1 a2 a3 a4 a5) := by
  intro a0 a1 a2 a3 a4 a5 k
  unfold impl_hasPart.f
  refine LeO.bind ?_ (fun _ => ?_)
  · first | exact impl_formOf.mono _ _ | exact LeO.refl _
  · refine LeO.ite ?_ ?_
    · first | exact slices_Contains_byte_byte.mono _ _ _ | exact LeO.refl _
    · exact LeO.none _
set_option maxHeartbeats 8000000 in
set_option maxRecDepth 100000 in
theorem impl_hasPart.calls (k : Nat) (a0_0 : Int) (a0_1 : Int) (a0_2 : Int) (a0_3 : Int) (a0_4 : Int) (a1 : Int) (r : Bool) (w : World) (h : impl_hasPart.f k a0_0 a0_1 a0_2 a0_3 a0_4 a1 = some r) :
  Calls Tryd.prog 50 #[.agg #[.int .i64 a0_0, .int .i64 a0_1, .int .i64 a0_2, .int .i64 a0_3, .int .i64 a0_4], .int .u8 a1] w fun e w' => e = .returned (.bool r) ∧ Below w.heap.size w w' := by
 obtain ⟨⟨s, b⟩, A80, H⟩ := Option.bind_eq_some_iff.mp h; have A8 := Aside0.mk A80; clear A80 h; replace H : (if s.size ≤ 9223372036854775807 then slices_Contains_byte_byte.f k (bytesOf s) a1 else none) = some r := H
 by_cases hs : s.size ≤ 9223372036854775807
 · rw [if_pos hs] at H
   have HC : Aside0 (∀ (W : World) (ad : Option Addr) (c : Nat), Kd.C (Kd.int .u8) W ad s.size (bytesOf s) → s.size ≤ c → Calls Tryd.prog 60 #[.slice ad s.size c, .int .u8 a1] W fun e w' => e = .returned (.bool r) ∧ Drawn0 W w') := by
     refine ⟨fun W ad c h1 h2 => ?_⟩; rw [← bytesOf_length s] at h1 h2 ⊢; exact slices_Contains_byte_byte.calls k ad c (bytesOf s) a1 r W h1 h2 H
   clear H; have HS := Aside0.mk hs; clear hs; have kb := fun (W : World) => print_bytes (P := Tryd.prog) 9 58 5 Tryd.underlying9 Tryd.underlying58 Tryd.underlying5 s W
   have HB := Aside0.mk (Below.refl w.heap.size w)
   go_enter Tryd.func50, Tryd.ntmps50
   go_wp2_with (first | (go_at_call 21; refine (impl_formOf.calls k a0_0 s b _ A8.out).mono ?_; rintro e w' ⟨rfl, ⟨nd, rfl⟩⟩) | (go_at_call 60; refine (HC.out _ _ _ ?hrd (grownCap_ge _ _ _ _)).mono ?_; (case hrd => exact impl_hasPart.reads _ s _ (by simp) HS.out); rintro e w' ⟨rfl, ⟨nd2, rfl⟩⟩))
   go_ret
   refine ⟨rfl, ?_⟩; exact pw_below_drewN (bytes_below (pw_below_drewN (below_alloc HB.out _) _) (below_size (pw_below_drewN (below_alloc HB.out _) _)) _ _) _
 · rw [if_neg hs] at H
   exact absurd H (by simp)

end Go.Proofs.YtdbffjaolbkedaaDoor.PFnExactCodeRead
