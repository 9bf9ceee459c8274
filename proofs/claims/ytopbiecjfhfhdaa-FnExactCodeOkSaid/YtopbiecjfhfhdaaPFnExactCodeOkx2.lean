-- Written by a program of this session (wip/patch.py turns a copy of the kit's print): the functions that the law reaches, and their walks.
import Derived.Test.YtopbiecjfhfhdaaPFnExactCodeOkx0
import Derived.Test.YtopbiecjfhfhdaaPFnExactCodeOkx1
import Derived.Test.YtopbiecjfhfhdaaCFnExactCodeOk
namespace Go.Proofs.Ytopbiecjfhfhdaa.PFnExactCodeOk
open Go.RowKit Go.Proofs.YtopbiecjfhfhdaaW.PrintWords Go.Proofs.YtopbiecjfhfhdaaW.PrintLast Go.Proofs.YtopbiecjfhfhdaaW.PrintMore Go.Proofs.YtopbiecjfhfhdaaW.Mine
attribute [local go_sem] max2_int min2_int max_two min_two max_three min_three max_four min_four   -- for this text's walks alone
set_option linter.unusedVariables false
set_option linter.unusedSimpArgs false

/-! ### impl_formOf: function 38 -/
mutual
def impl_formOf.j0 : Nat → Int → Bool → Option (ByteArray × Bool)
  | 0, _, _ => none
  | k + 1, x4, x7 => if x7 = true then (some ((⟨#[82, 65, 66]⟩ : ByteArray), true)) else (if x4 = 3 then (impl_formOf.j1 k x4 (x4 == 3)) else (if x4 = 9 then (impl_formOf.j1 k x4 (x4 == 9)) else (impl_formOf.j1 k x4 (x4 == 12))))
def impl_formOf.j1 : Nat → Int → Bool → Option (ByteArray × Bool)
  | 0, _, _ => none
  | k + 1, x4, x13 => if x13 = true then (some ((⟨#[82, 65]⟩ : ByteArray), true)) else (if x4 = 6 then (some ((⟨#[82, 65, 66, 78]⟩ : ByteArray), true)) else (if x4 = 10 then (some ((⟨#[82, 65, 78]⟩ : ByteArray), true)) else (if x4 = 11 then (some ((⟨#[65, 66, 78]⟩ : ByteArray), true)) else (if x4 = 13 then (some ((⟨#[65, 78]⟩ : ByteArray), true)) else (if x4 = 14 then (some ((⟨#[65]⟩ : ByteArray), true)) else (if x4 = 15 then (some ((⟨#[]⟩ : ByteArray), true)) else (some ((⟨#[]⟩ : ByteArray), false))))))))
end
def impl_formOf.f (k : Nat) (a0 : Int) : Option (ByteArray × Bool) := if a0 = 1 then (some ((⟨#[82, 78]⟩ : ByteArray), true)) else (if a0 = 2 then (impl_formOf.j0 k a0 (a0 == 2)) else (if a0 = 4 then (impl_formOf.j0 k a0 (a0 == 4)) else (if a0 = 5 then (impl_formOf.j0 k a0 (a0 == 5)) else (if a0 = 7 then (impl_formOf.j0 k a0 (a0 == 7)) else (impl_formOf.j0 k a0 (a0 == 8))))))
theorem impl_formOf.mono_l : ∀ k, (∀ y0 y1, LeO (impl_formOf.j0 k y0 y1) (impl_formOf.j0 (k + 1) y0 y1)) ∧ (∀ y0 y1, LeO (impl_formOf.j1 k y0 y1) (impl_formOf.j1 (k + 1) y0 y1))
  | 0 => ⟨fun _ _ r h => by simp [impl_formOf.j0] at h, fun _ _ r h => by simp [impl_formOf.j1] at h⟩
  | k + 1 => by
    obtain ⟨ih0, ih1⟩ := impl_formOf.mono_l k
    refine ⟨?_, ?_⟩
    · intro y0 y1
      unfold impl_formOf.j0
      repeat' first
      | (with_reducible exact ih0 _ _)
      | (with_reducible exact ih1 _ _)
      | (with_reducible exact LeO.refl _)
      | (with_reducible exact LeO.none _)
      | (with_reducible refine LeO.ite ?_ ?_)
      | (with_reducible refine LeO.bind ?_ (fun _ => ?_))
      | exact ih0 _ _
      | exact ih1 _ _
      | exact LeO.none _
      | refine LeO.ite ?_ ?_
      | refine LeO.bind ?_ (fun _ => ?_)
    · intro y0 y1
      unfold impl_formOf.j1
      repeat' first
      | (with_reducible exact ih0 _ _)
      | (with_reducible exact ih1 _ _)
      | (with_reducible exact LeO.refl _)
      | (with_reducible exact LeO.none _)
      | (with_reducible refine LeO.ite ?_ ?_)
      | (with_reducible refine LeO.bind ?_ (fun _ => ?_))
      | exact ih0 _ _
      | exact ih1 _ _
      | exact LeO.none _
      | refine LeO.ite ?_ ?_
      | refine LeO.bind ?_ (fun _ => ?_)
theorem impl_formOf.mono : ∀ a0 k, LeO (impl_formOf.f k a0) (impl_formOf.f (k + 1) a0) := by
  intro a0 k
  obtain ⟨ih0, ih1⟩ := impl_formOf.mono_l k
  unfold impl_formOf.f
  repeat' first
      | (with_reducible exact ih0 _ _)
      | (with_reducible exact ih1 _ _)
      | (with_reducible exact LeO.refl _)
      | (with_reducible exact LeO.none _)
      | (with_reducible refine LeO.ite ?_ ?_)
      | (with_reducible refine LeO.bind ?_ (fun _ => ?_))
      | exact ih0 _ _
      | exact ih1 _ _
      | exact LeO.none _
      | refine LeO.ite ?_ ?_
      | refine LeO.bind ?_ (fun _ => ?_)
set_option maxHeartbeats 8000000 in
set_option maxRecDepth 100000 in
theorem impl_formOf.calls (k : Nat) (a0 : Int) (r1 : ByteArray) (r2 : Bool) (w : World) (h : impl_formOf.f k a0 = some (r1, r2)) :
    Calls Try.prog 38 #[.int .i64 a0] w fun e w' => e = .returned (.tuple #[.string r1, .bool r2]) ∧ Drawn0 w w' := by
  have H : (if a0 = 1 then (some ((⟨#[82, 78]⟩ : ByteArray), true)) else (if a0 = 2 then (impl_formOf.j0 k a0 (a0 == 2)) else (if a0 = 4 then (impl_formOf.j0 k a0 (a0 == 4)) else (if a0 = 5 then (impl_formOf.j0 k a0 (a0 == 5)) else (if a0 = 7 then (impl_formOf.j0 k a0 (a0 == 7)) else (impl_formOf.j0 k a0 (a0 == 8))))))) = some (r1, r2) := h
  clear h
  by_cases c2 : a0 = 1
  · rw [if_pos c2] at H
    have c2b0 : (a0 == 1) = true := beq_iff_eq.mpr c2
    have c2b1 : (a0 != 1) = false := bne_eq_false_iff_eq.mpr c2
    clear c2
    simp only [Option.some.injEq, Prod.mk.injEq] at H
    obtain ⟨rfl, rfl⟩ := H
    go_enter Try.func38, Try.ntmps38
    go_wp2
    go_ret2
    exact ⟨by first | rfl | (simp; done) | (simp [*]; done), by repeat (first | exact Drawn0.refl _ | apply Drawn0.step)⟩
  · rw [if_neg c2] at H
    have c2b0 : (a0 == 1) = false := beq_eq_false_iff_ne.mpr c2
    have c2b1 : (a0 != 1) = true := bne_iff_ne.mpr c2
    have HC3 := Aside0.mk H
    clear H
    go_enter Try.func38, Try.ntmps38
    go_upto_if 7 with (fail)
    go_cut [7] (fun v7 wc => ∃ (kq : Nat) (x7_2 : Bool), v7 = .bool x7_2 ∧ Aside0 (impl_formOf.j0 kq a0 x7_2 = some (r1, r2)) ∧ Aside0 (kq ≤ k) ∧ Drawn0 w wc)
    case first =>
      have H := HC3.out
      clear HC3
      by_cases c4 : a0 = 2
      · rw [if_pos c4] at H
        have c4b0 : (a0 == 2) = true := beq_iff_eq.mpr c4
        have c4b1 : (a0 != 2) = false := bne_eq_false_iff_eq.mpr c4
        clear c4
        (first | rw [c4b0] | (simp only [i64_w, i32_w]; rw [c4b0]) | skip)
        have H' := Aside0.mk H
        clear H
        go_wp2
        go_meet
        case rel => exact ⟨_, ((a0 == 2)), (by first | rfl | (simp; done) | (simp [*]; done)), H', ⟨by first | omega | exact Nat.le_refl _⟩, by repeat (first | exact Drawn0.refl _ | apply Drawn0.step)⟩
      · rw [if_neg c4] at H
        have c4b0 : (a0 == 2) = false := beq_eq_false_iff_ne.mpr c4
        have c4b1 : (a0 != 2) = true := bne_iff_ne.mpr c4
        (first | rw [c4b0] | (simp only [i64_w, i32_w]; rw [c4b0]) | skip)
        by_cases c5 : a0 = 4
        · rw [if_pos c5] at H
          have c5b0 : (a0 == 4) = true := beq_iff_eq.mpr c5
          have c5b1 : (a0 != 4) = false := bne_eq_false_iff_eq.mpr c5
          clear c5
          have H' := Aside0.mk H
          clear H
          go_wp2
          go_meet
          case rel => exact ⟨_, ((a0 == 4)), (by first | rfl | (simp; done) | (simp [*]; done)), H', ⟨by first | omega | exact Nat.le_refl _⟩, by repeat (first | exact Drawn0.refl _ | apply Drawn0.step)⟩
        · rw [if_neg c5] at H
          have c5b0 : (a0 == 4) = false := beq_eq_false_iff_ne.mpr c5
          have c5b1 : (a0 != 4) = true := bne_iff_ne.mpr c5
          by_cases c6 : a0 = 5
          · rw [if_pos c6] at H
            have c6b0 : (a0 == 5) = true := beq_iff_eq.mpr c6
            have c6b1 : (a0 != 5) = false := bne_eq_false_iff_eq.mpr c6
            clear c6
            have H' := Aside0.mk H
            clear H
            go_wp2
            go_meet
            case rel => exact ⟨_, ((a0 == 5)), (by first | rfl | (simp; done) | (simp [*]; done)), H', ⟨by first | omega | exact Nat.le_refl _⟩, by repeat (first | exact Drawn0.refl _ | apply Drawn0.step)⟩
          · rw [if_neg c6] at H
            have c6b0 : (a0 == 5) = false := beq_eq_false_iff_ne.mpr c6
            have c6b1 : (a0 != 5) = true := bne_iff_ne.mpr c6
            by_cases c7 : a0 = 7
            · rw [if_pos c7] at H
              have c7b0 : (a0 == 7) = true := beq_iff_eq.mpr c7
              have c7b1 : (a0 != 7) = false := bne_eq_false_iff_eq.mpr c7
              clear c7
              have H' := Aside0.mk H
              clear H
              go_wp2
              go_meet
              case rel => exact ⟨_, ((a0 == 7)), (by first | rfl | (simp; done) | (simp [*]; done)), H', ⟨by first | omega | exact Nat.le_refl _⟩, by repeat (first | exact Drawn0.refl _ | apply Drawn0.step)⟩
            · rw [if_neg c7] at H
              have c7b0 : (a0 == 7) = false := beq_eq_false_iff_ne.mpr c7
              have c7b1 : (a0 != 7) = true := bne_iff_ne.mpr c7
              have H' := Aside0.mk H
              clear H
              go_wp2
              go_meet
              case rel => exact ⟨_, ((a0 == 8)), (by first | rfl | (simp; done) | (simp [*]; done)), H', ⟨by first | omega | exact Nat.le_refl _⟩, by repeat (first | exact Drawn0.refl _ | apply Drawn0.step)⟩
    case rest =>
      clear HC3
      try clear c2
      try clear c2b0
      try clear c2b1
      try clear p2
      try clear c3
      try clear c4
      try clear c4b0
      try clear c4b1
      try clear c5
      try clear c5b0
      try clear c5b1
      try clear c6
      try clear c6b0
      try clear c6b1
      try clear c7
      try clear c7b0
      try clear c7b1
      obtain ⟨kq, x7_2, rfl, HA, HJ2, ⟨mc2, rfl⟩⟩ := hcut
      cases kq with
      | zero => exact absurd HA.out (by simp [impl_formOf.j0])
      | succ kj2 =>
        have H := HA.out
        clear HA
        simp only [impl_formOf.j0] at H
        by_cases c8 : x7_2 = true
        · subst c8
          have H1 : (some ((⟨#[82, 65, 66]⟩ : ByteArray), true)) = some (r1, r2) := by rw [if_pos rfl] at H; exact H
          clear H
          have H := H1
          clear H1
          simp only [Option.some.injEq, Prod.mk.injEq] at H
          obtain ⟨rfl, rfl⟩ := H
          go_wp2
          go_ret2
          exact ⟨by first | rfl | (simp; done) | (simp [*]; done), by repeat (first | exact Drawn0.refl _ | apply Drawn0.step)⟩
        · replace c8 := Bool.eq_false_iff.mpr c8
          subst c8
          have H1 : (if a0 = 3 then (impl_formOf.j1 kj2 a0 (a0 == 3)) else (if a0 = 9 then (impl_formOf.j1 kj2 a0 (a0 == 9)) else (impl_formOf.j1 kj2 a0 (a0 == 12)))) = some (r1, r2) := by rw [if_neg (show ¬ (false = true) by decide)] at H; exact H
          clear H
          have H := H1
          clear H1
          have HC9 := Aside0.mk H
          clear H
          go_upto_if 13 with (fail)
          go_cut [13] (fun v13 wc => ∃ (kq : Nat) (x13_8 : Bool), v13 = .bool x13_8 ∧ Aside0 (impl_formOf.j1 kq a0 x13_8 = some (r1, r2)) ∧ Aside0 (kq ≤ kj2) ∧ Drawn0 w wc)
          case first =>
            have H := HC9.out
            clear HC9
            by_cases c10 : a0 = 3
            · rw [if_pos c10] at H
              have c10b0 : (a0 == 3) = true := beq_iff_eq.mpr c10
              have c10b1 : (a0 != 3) = false := bne_eq_false_iff_eq.mpr c10
              clear c10
              (first | rw [c10b0] | (simp only [i64_w, i32_w]; rw [c10b0]) | skip)
              have H' := Aside0.mk H
              clear H
              go_wp2
              go_meet
              case rel => exact ⟨_, ((a0 == 3)), (by first | rfl | (simp; done) | (simp [*]; done)), H', ⟨by have := HJ2.out; first | omega | exact Nat.le_refl _⟩, by repeat (first | exact Drawn0.refl _ | apply Drawn0.step)⟩
            · rw [if_neg c10] at H
              have c10b0 : (a0 == 3) = false := beq_eq_false_iff_ne.mpr c10
              have c10b1 : (a0 != 3) = true := bne_iff_ne.mpr c10
              (first | rw [c10b0] | (simp only [i64_w, i32_w]; rw [c10b0]) | skip)
              by_cases c11 : a0 = 9
              · rw [if_pos c11] at H
                have c11b0 : (a0 == 9) = true := beq_iff_eq.mpr c11
                have c11b1 : (a0 != 9) = false := bne_eq_false_iff_eq.mpr c11
                clear c11
                have H' := Aside0.mk H
                clear H
                go_wp2
                go_meet
                case rel => exact ⟨_, ((a0 == 9)), (by first | rfl | (simp; done) | (simp [*]; done)), H', ⟨by have := HJ2.out; first | omega | exact Nat.le_refl _⟩, by repeat (first | exact Drawn0.refl _ | apply Drawn0.step)⟩
              · rw [if_neg c11] at H
                have c11b0 : (a0 == 9) = false := beq_eq_false_iff_ne.mpr c11
                have c11b1 : (a0 != 9) = true := bne_iff_ne.mpr c11
                have H' := Aside0.mk H
                clear H
                go_wp2
                go_meet
                case rel => exact ⟨_, ((a0 == 12)), (by first | rfl | (simp; done) | (simp [*]; done)), H', ⟨by have := HJ2.out; first | omega | exact Nat.le_refl _⟩, by repeat (first | exact Drawn0.refl _ | apply Drawn0.step)⟩
          case rest =>
            clear HC9
            try clear c1
            try clear c2
            try clear c2b0
            try clear c2b1
            try clear p2
            try clear c3
            try clear c4
            try clear c4b0
            try clear c4b1
            try clear c5
            try clear c5b0
            try clear c5b1
            try clear c6
            try clear c6b0
            try clear c6b1
            try clear c7
            try clear c7b0
            try clear c7b1
            try clear c8
            try clear c10
            try clear c10b0
            try clear c10b1
            try clear c11
            try clear c11b0
            try clear c11b1
            try clear p2
            obtain ⟨kq, x13_8, rfl, HA, HJ8, ⟨mc8, rfl⟩⟩ := hcut
            cases kq with
            | zero => exact absurd HA.out (by simp [impl_formOf.j1])
            | succ kj8 =>
              have H := HA.out
              clear HA
              simp only [impl_formOf.j1] at H
              by_cases c12 : x13_8 = true
              · subst c12
                have H1 : (some ((⟨#[82, 65]⟩ : ByteArray), true)) = some (r1, r2) := by rw [if_pos rfl] at H; exact H
                clear H
                have H := H1
                clear H1
                simp only [Option.some.injEq, Prod.mk.injEq] at H
                obtain ⟨rfl, rfl⟩ := H
                go_wp2
                go_ret2
                exact ⟨by first | rfl | (simp; done) | (simp [*]; done), by repeat (first | exact Drawn0.refl _ | apply Drawn0.step)⟩
              · replace c12 := Bool.eq_false_iff.mpr c12
                subst c12
                have H1 : (if a0 = 6 then (some ((⟨#[82, 65, 66, 78]⟩ : ByteArray), true)) else (if a0 = 10 then (some ((⟨#[82, 65, 78]⟩ : ByteArray), true)) else (if a0 = 11 then (some ((⟨#[65, 66, 78]⟩ : ByteArray), true)) else (if a0 = 13 then (some ((⟨#[65, 78]⟩ : ByteArray), true)) else (if a0 = 14 then (some ((⟨#[65]⟩ : ByteArray), true)) else (if a0 = 15 then (some ((⟨#[]⟩ : ByteArray), true)) else (some ((⟨#[]⟩ : ByteArray), false)))))))) = some (r1, r2) := by rw [if_neg (show ¬ (false = true) by decide)] at H; exact H
                clear H
                have H := H1
                clear H1
                by_cases c13 : a0 = 6
                · rw [if_pos c13] at H
                  have c13b0 : (a0 == 6) = true := beq_iff_eq.mpr c13
                  have c13b1 : (a0 != 6) = false := bne_eq_false_iff_eq.mpr c13
                  clear c13
                  simp only [Option.some.injEq, Prod.mk.injEq] at H
                  obtain ⟨rfl, rfl⟩ := H
                  go_wp2
                  go_ret2
                  exact ⟨by first | rfl | (simp; done) | (simp [*]; done), by repeat (first | exact Drawn0.refl _ | apply Drawn0.step)⟩
                · rw [if_neg c13] at H
                  have c13b0 : (a0 == 6) = false := beq_eq_false_iff_ne.mpr c13
                  have c13b1 : (a0 != 6) = true := bne_iff_ne.mpr c13
                  by_cases c14 : a0 = 10
                  · rw [if_pos c14] at H
                    have c14b0 : (a0 == 10) = true := beq_iff_eq.mpr c14
                    have c14b1 : (a0 != 10) = false := bne_eq_false_iff_eq.mpr c14
                    clear c14
                    simp only [Option.some.injEq, Prod.mk.injEq] at H
                    obtain ⟨rfl, rfl⟩ := H
                    go_wp2
                    go_ret2
                    exact ⟨by first | rfl | (simp; done) | (simp [*]; done), by repeat (first | exact Drawn0.refl _ | apply Drawn0.step)⟩
                  · rw [if_neg c14] at H
                    have c14b0 : (a0 == 10) = false := beq_eq_false_iff_ne.mpr c14
                    have c14b1 : (a0 != 10) = true := bne_iff_ne.mpr c14
                    by_cases c15 : a0 = 11
                    · rw [if_pos c15] at H
                      have c15b0 : (a0 == 11) = true := beq_iff_eq.mpr c15
                      have c15b1 : (a0 != 11) = false := bne_eq_false_iff_eq.mpr c15
                      clear c15
                      simp only [Option.some.injEq, Prod.mk.injEq] at H
                      obtain ⟨rfl, rfl⟩ := H
                      go_wp2
                      go_ret2
                      exact ⟨by first | rfl | (simp; done) | (simp [*]; done), by repeat (first | exact Drawn0.refl _ | apply Drawn0.step)⟩
                    · rw [if_neg c15] at H
                      have c15b0 : (a0 == 11) = false := beq_eq_false_iff_ne.mpr c15
                      have c15b1 : (a0 != 11) = true := bne_iff_ne.mpr c15
                      by_cases c16 : a0 = 13
                      · rw [if_pos c16] at H
                        have c16b0 : (a0 == 13) = true := beq_iff_eq.mpr c16
                        have c16b1 : (a0 != 13) = false := bne_eq_false_iff_eq.mpr c16
                        clear c16
                        simp only [Option.some.injEq, Prod.mk.injEq] at H
                        obtain ⟨rfl, rfl⟩ := H
                        go_wp2
                        go_ret2
                        exact ⟨by first | rfl | (simp; done) | (simp [*]; done), by repeat (first | exact Drawn0.refl _ | apply Drawn0.step)⟩
                      · rw [if_neg c16] at H
                        have c16b0 : (a0 == 13) = false := beq_eq_false_iff_ne.mpr c16
                        have c16b1 : (a0 != 13) = true := bne_iff_ne.mpr c16
                        by_cases c17 : a0 = 14
                        · rw [if_pos c17] at H
                          have c17b0 : (a0 == 14) = true := beq_iff_eq.mpr c17
                          have c17b1 : (a0 != 14) = false := bne_eq_false_iff_eq.mpr c17
                          clear c17
                          simp only [Option.some.injEq, Prod.mk.injEq] at H
                          obtain ⟨rfl, rfl⟩ := H
                          go_wp2
                          go_ret2
                          exact ⟨by first | rfl | (simp; done) | (simp [*]; done), by repeat (first | exact Drawn0.refl _ | apply Drawn0.step)⟩
                        · rw [if_neg c17] at H
                          have c17b0 : (a0 == 14) = false := beq_eq_false_iff_ne.mpr c17
                          have c17b1 : (a0 != 14) = true := bne_iff_ne.mpr c17
                          by_cases c18 : a0 = 15
                          · rw [if_pos c18] at H
                            have c18b0 : (a0 == 15) = true := beq_iff_eq.mpr c18
                            have c18b1 : (a0 != 15) = false := bne_eq_false_iff_eq.mpr c18
                            clear c18
                            simp only [Option.some.injEq, Prod.mk.injEq] at H
                            obtain ⟨rfl, rfl⟩ := H
                            go_wp2
                            go_ret2
                            exact ⟨by first | rfl | (simp; done) | (simp [*]; done), by repeat (first | exact Drawn0.refl _ | apply Drawn0.step)⟩
                          · rw [if_neg c18] at H
                            have c18b0 : (a0 == 15) = false := beq_eq_false_iff_ne.mpr c18
                            have c18b1 : (a0 != 15) = true := bne_iff_ne.mpr c18
                            simp only [Option.some.injEq, Prod.mk.injEq] at H
                            obtain ⟨rfl, rfl⟩ := H
                            go_wp2
                            go_ret2
                            exact ⟨by first | rfl | (simp; done) | (simp [*]; done), by repeat (first | exact Drawn0.refl _ | apply Drawn0.step)⟩

/-! ### slices_Index_byte_byte: function 59 -/
def slices_Index_byte_byte.l0 : Nat → List Int → Int → Int → Int → Option (Int)
  | 0, _, _, _, _ => none
  | k + 1, x0, x1, x7, x8 => if x8 < x7 then (if 0 ≤ x8 then (if x8 < (x0.length : Int) then (if x1 = (rd x0 x8) then (some x8) else (slices_Index_byte_byte.l0 k x0 x1 x7 (wrap64 (x8 + 1)))) else (none)) else (none)) else (some (-1))
def slices_Index_byte_byte.f (k : Nat) (l0 : List Int) (a1 : Int) : Option (Int) := slices_Index_byte_byte.l0 k l0 a1 (l0.length : Int) 0
theorem slices_Index_byte_byte.mono_l : ∀ k, (∀ y0 y1 y2 y3, LeO (slices_Index_byte_byte.l0 k y0 y1 y2 y3) (slices_Index_byte_byte.l0 (k + 1) y0 y1 y2 y3))
  | 0 => fun _ _ _ _ r h => by simp [slices_Index_byte_byte.l0] at h
  | k + 1 => by
    have ih0 := slices_Index_byte_byte.mono_l k
    · intro y0 y1 y2 y3
      unfold slices_Index_byte_byte.l0
      repeat' first
      | (with_reducible exact ih0 _ _ _ _)
      | (with_reducible exact LeO.refl _)
      | (with_reducible exact LeO.none _)
      | (with_reducible refine LeO.ite ?_ ?_)
      | (with_reducible refine LeO.bind ?_ (fun _ => ?_))
      | exact ih0 _ _ _ _
      | exact LeO.none _
      | refine LeO.ite ?_ ?_
      | refine LeO.bind ?_ (fun _ => ?_)
theorem slices_Index_byte_byte.mono : ∀ a0 a1 k, LeO (slices_Index_byte_byte.f k a0 a1) (slices_Index_byte_byte.f (k + 1) a0 a1) := by
  intro a0 a1 k
  have ih0 := slices_Index_byte_byte.mono_l k
  unfold slices_Index_byte_byte.f
  repeat' first
      | (with_reducible exact ih0 _ _ _ _)
      | (with_reducible exact LeO.refl _)
      | (with_reducible exact LeO.none _)
      | (with_reducible refine LeO.ite ?_ ?_)
      | (with_reducible refine LeO.bind ?_ (fun _ => ?_))
      | exact ih0 _ _ _ _
      | exact LeO.none _
      | refine LeO.ite ?_ ?_
      | refine LeO.bind ?_ (fun _ => ?_)
set_option maxHeartbeats 8000000 in
set_option maxRecDepth 100000 in
theorem slices_Index_byte_byte.calls (k : Nat) (A0 : Option Addr) (c0 : Nat) (l0 : List Int) (a1 : Int) (r : Int) (w : World) (hr0 : Kd.C (Kd.int .u8) w A0 l0.length l0) (hc0 : l0.length ≤ c0) (h : slices_Index_byte_byte.f k l0 a1 = some r) :
    Calls Try.prog 59 #[.slice A0 l0.length c0, .int .u8 a1] w fun e w' => e = .returned (.int .i64 r) ∧ Drawn0 w w' := by
  have HR0 := Aside0.mk hr0
  have HC0 := Aside0.mk hc0
  clear hr0 hc0
  have H : (slices_Index_byte_byte.l0 k l0 a1 (l0.length : Int) 0) = some r := h
  clear h
  have H' := Aside0.mk H
  clear H
  go_enter Try.func59, Try.ntmps59
  go_wp2
  go_loopg [8] k (fun kq v8 w' => ∃ (x8_1 : Int), v8 = .int .i64 x8_1 ∧ Aside0 (slices_Index_byte_byte.l0 kq l0 a1 (l0.length : Int) x8_1 = some r) ∧ Aside0 (kq ≤ k) ∧ Drawn0 w w')
  case atStart => exact ⟨(0), (by first | rfl | (simp; done) | (simp [*]; done)), H', ⟨Nat.le_refl _⟩, by repeat (first | exact Drawn0.refl _ | apply Drawn0.step)⟩
  case round =>
    clear H'
    try clear p2
    obtain ⟨x8_1, rfl, HA, HK1, ⟨m1, rfl⟩⟩ := hrel
    cases gk with
    | zero => exact absurd HA.out (by simp [slices_Index_byte_byte.l0])
    | succ k1 =>
      have H := HA.out
      clear HA
      simp only [slices_Index_byte_byte.l0] at H
      by_cases c3 : x8_1 < (l0.length : Int)
      · rw [if_pos c3] at H
        have c3b0 : decide (x8_1 < (l0.length : Int)) = true := decide_eq_true c3
        clear c3
        by_cases c4 : 0 ≤ x8_1
        · rw [if_pos c4] at H
          have c4b0 : decide (0 ≤ x8_1) = true := decide_eq_true c4
          clear c4
          by_cases c5 : x8_1 < (l0.length : Int)
          · rw [if_pos c5] at H
            have c5b0 : decide (x8_1 < (l0.length : Int)) = true := decide_eq_true c5
            clear c5
            by_cases c6 : a1 = (rd l0 x8_1)
            · rw [if_pos c6] at H
              have c6b0 : (a1 == (rd l0 x8_1)) = true := beq_iff_eq.mpr c6
              have c6b1 : (a1 != (rd l0 x8_1)) = false := bne_eq_false_iff_eq.mpr c6
              clear c6
              obtain rfl := Option.some.inj H
              have p130 : 0 ≤ (x8_1 : Int) := of_decide_eq_true (by first | (with_reducible assumption) | assumption)
              have q130 : x8_1 < (l0.length : Int) := of_decide_eq_true (by first | (with_reducible assumption) | assumption)
              obtain ⟨ad130, e130, hx130_0⟩ := Kd.at_int HR0.out x8_1 p130 q130
              cases e130
              replace p130 := eq_true p130
              replace q130 := eq_true q130
              go_wp2
              go_ret
              exact ⟨by first | rfl | (simp; done) | (simp [*]; done), by repeat (first | exact Drawn0.refl _ | apply Drawn0.step)⟩
            · rw [if_neg c6] at H
              have c6b0 : (a1 == (rd l0 x8_1)) = false := beq_eq_false_iff_ne.mpr c6
              have c6b1 : (a1 != (rd l0 x8_1)) = true := bne_iff_ne.mpr c6
              have H' := Aside0.mk H
              clear H
              have p130 : 0 ≤ (x8_1 : Int) := of_decide_eq_true (by first | (with_reducible assumption) | assumption)
              have q130 : x8_1 < (l0.length : Int) := of_decide_eq_true (by first | (with_reducible assumption) | assumption)
              obtain ⟨ad130, e130, hx130_0⟩ := Kd.at_int HR0.out x8_1 p130 q130
              cases e130
              replace p130 := eq_true p130
              replace q130 := eq_true q130
              go_wp2
              go_roundg k1
              case measure => have := HK1.out; omega
              case rel => exact ⟨(wrap64 (x8_1 + 1)), (by first | rfl | (simp; done) | (simp [*]; done)), H', ⟨by have := HK1.out; omega⟩, by repeat (first | exact Drawn0.refl _ | apply Drawn0.step)⟩
          · rw [if_neg c5] at H
            exact absurd H (by simp)
        · rw [if_neg c4] at H
          exact absurd H (by simp)
      · rw [if_neg c3] at H
        have c3b0 : decide (x8_1 < (l0.length : Int)) = false := decide_eq_false c3
        clear c3
        obtain rfl := Option.some.inj H
        go_wp2
        go_ret
        exact ⟨by first | rfl | (simp; done) | (simp [*]; done), by repeat (first | exact Drawn0.refl _ | apply Drawn0.step)⟩

/-! ### slices_Contains_byte_byte: function 53 -/
def slices_Contains_byte_byte.f (k : Nat) (l0 : List Int) (a1 : Int) : Option (Bool) := (slices_Index_byte_byte.f k l0 a1).bind fun t131 => (some (decide (t131 ≥ 0)))
theorem slices_Contains_byte_byte.mono : ∀ a0 a1 k, LeO (slices_Contains_byte_byte.f k a0 a1) (slices_Contains_byte_byte.f (k + 1) a0 a1) := by
  intro a0 a1 k
  unfold slices_Contains_byte_byte.f
  repeat' first
      | (with_reducible exact slices_Index_byte_byte.mono _ _ _)
      | (with_reducible exact LeO.refl _)
      | (with_reducible exact LeO.none _)
      | (with_reducible refine LeO.ite ?_ ?_)
      | (with_reducible refine LeO.bind ?_ (fun _ => ?_))
      | exact slices_Index_byte_byte.mono _ _ _
      | exact LeO.none _
      | refine LeO.ite ?_ ?_
      | refine LeO.bind ?_ (fun _ => ?_)
set_option maxHeartbeats 8000000 in
set_option maxRecDepth 100000 in
theorem slices_Contains_byte_byte.calls (k : Nat) (A0 : Option Addr) (c0 : Nat) (l0 : List Int) (a1 : Int) (r : Bool) (w : World) (hr0 : Kd.C (Kd.int .u8) w A0 l0.length l0) (hc0 : l0.length ≤ c0) (h : slices_Contains_byte_byte.f k l0 a1 = some r) :
    Calls Try.prog 53 #[.slice A0 l0.length c0, .int .u8 a1] w fun e w' => e = .returned (.bool r) ∧ Drawn0 w w' := by
  have HR0 := Aside0.mk hr0
  have HC0 := Aside0.mk hc0
  clear hr0 hc0
  have H : ((slices_Index_byte_byte.f k l0 a1).bind fun t131 => (some (decide (t131 ≥ 0)))) = some r := h
  clear h
  replace H := Option.bind_eq_some_iff.mp H
  obtain ⟨t131, A30, H⟩ := H
  replace H : (some (decide (t131 ≥ 0))) = some r := H
  have A3 := Aside0.mk A30
  clear A30
  obtain rfl := Option.some.inj H
  go_enter Try.func53, Try.ntmps53
  go_wp2_with (first | ((with_reducible refine gate_callee (f := 59) rfl ?_); refine goesM (some 7) rfl rfl Try.func59 (by kernel_rfl) rfl #[.slice A0 l0.length c0, .int .u8 a1] rfl ?_; (with_reducible refine (slices_Index_byte_byte.calls k _ _ l0 a1 t131 _ ?side1 ?side2 A3.out).mono ?_); (case side1 => repeat (first | exact HR0.out | (with_reducible refine Kd.C_alloc ?_ _) | (with_reducible refine Kd.C_drewN ?_ _) | (with_reducible refine Kd.C_drew ?_))); (case side2 => exact HC0.out); rintro e w' ⟨rfl, ⟨nd, rfl⟩⟩; refine ⟨_, rfl, ?_⟩))
  go_ret
  exact ⟨by first | rfl | (simp; done) | (simp [*]; done), by repeat (first | exact Drawn0.refl _ | apply Drawn0.step)⟩

/-! ### impl_hasPart: function 35 -/
theorem impl_hasPart.reads (W : World) (s : ByteArray) (g : Nat) (hg : g = W.heap.size) (hs : s.size ≤ 9223372036854775807) : Kd.C (Kd.int .u8) (Lib.bytesWorld W 5 s) (some ⟨g, 0, none⟩) s.size (bytesOf s) := by
  subst hg
  obtain ⟨h1, h2, h3⟩ := bytes_reads W 5 s hs
  refine ⟨h1, h2, fun hp => ?_⟩
  obtain ⟨ad, e, hc⟩ := h3 hp
  refine ⟨ad, e, fun j p hj => ⟨[.int .u8 p], rfl, rfl, fun i u hu => ?_⟩⟩
  have hi : i = 0 := by
    cases i with
    | zero => rfl
    | succ i => simp at hu
  subst hi
  obtain rfl : Value.int .u8 p = u := by simpa using hu
  have hjl : j < s.size := by
    rw [← h1]
    exact (List.getElem?_eq_some_iff.1 hj).1
  have h4 := hc j hjl
  rw [List.getD_eq_getElem?_getD, hj] at h4
  have h5 : j * (Kd.int .u8).sz + 0 = j := Nat.mul_one j
  rw [h5]
  exact h4
def impl_hasPart.f (k : Nat) (a0_0 : Int) (a0_1 : Int) (a0_2 : Int) (a0_3 : Int) (a0_4 : Int) (a1 : Int) : Option (Bool) := (impl_formOf.f k a0_0).bind fun bt => (if bt.1.size ≤ 9223372036854775807 then slices_Contains_byte_byte.f k (bytesOf bt.1) a1 else none)
theorem impl_hasPart.mono : ∀ a0 a1 a2 a3 a4 a5 k, LeO (impl_hasPart.f k a0 a1 a2 a3 a4 a5) (impl_hasPart.f (k + 1) a0 a1 a2 a3 a4 a5) := by
  intro a0 a1 a2 a3 a4 a5 k
  unfold impl_hasPart.f
  refine LeO.bind ?_ (fun _ => ?_)
  · first | exact impl_formOf.mono _ _ | exact LeO.refl _
  · refine LeO.ite ?_ ?_
    · first | exact slices_Contains_byte_byte.mono _ _ _ | exact LeO.refl _
    · exact LeO.none _
set_option maxHeartbeats 8000000 in
set_option maxRecDepth 100000 in
theorem impl_hasPart.calls (k : Nat) (a0_0 : Int) (a0_1 : Int) (a0_2 : Int) (a0_3 : Int) (a0_4 : Int) (a1 : Int) (r : Bool) (w : World) (h : impl_hasPart.f k a0_0 a0_1 a0_2 a0_3 a0_4 a1 = some r) :
  Calls Try.prog 35 #[.agg #[.int .i64 a0_0, .int .i64 a0_1, .int .i64 a0_2, .int .i64 a0_3, .int .i64 a0_4], .int .u8 a1] w fun e w' => e = .returned (.bool r) ∧ Below w.heap.size w w' := by
 obtain ⟨⟨s, b⟩, A80, H⟩ := Option.bind_eq_some_iff.mp h
 have A8 := Aside0.mk A80
 clear A80 h
 replace H : (if s.size ≤ 9223372036854775807 then slices_Contains_byte_byte.f k (bytesOf s) a1 else none) = some r := H
 by_cases hs : s.size ≤ 9223372036854775807
 · rw [if_pos hs] at H
   have HC : Aside0 (∀ (W : World) (ad : Option Addr) (c : Nat), Kd.C (Kd.int .u8) W ad s.size (bytesOf s) → s.size ≤ c → Calls Try.prog 53 #[.slice ad s.size c, .int .u8 a1] W fun e w' => e = .returned (.bool r) ∧ Drawn0 W w') := by
     refine ⟨fun W ad c h1 h2 => ?_⟩
     rw [← bytesOf_length s] at h1 h2 ⊢
     exact slices_Contains_byte_byte.calls k ad c (bytesOf s) a1 r W h1 h2 H
   clear H
   have HS := Aside0.mk hs
   clear hs
   have kb := fun (W : World) => print_bytes (P := Try.prog) 9 42 5 Try.underlying9 Try.underlying42 Try.underlying5 s W
   have HB := Aside0.mk (Below.refl w.heap.size w)
   go_enter Try.func35, Try.ntmps35
   go_wp2_with (first | (go_at_call 38; refine (impl_formOf.calls k a0_0 s b _ A8.out).mono ?_; rintro e w' ⟨rfl, ⟨nd, rfl⟩⟩) | (go_at_call 53; refine (HC.out _ _ _ ?hrd (grownCap_ge _ _ _ _)).mono ?_; (case hrd => exact impl_hasPart.reads _ s _ (by simp) HS.out); rintro e w' ⟨rfl, ⟨nd2, rfl⟩⟩))
   go_ret
   refine ⟨rfl, ?_⟩
   exact pw_below_drewN (bytes_below (pw_below_drewN (below_alloc HB.out _) _) (below_size (pw_below_drewN (below_alloc HB.out _) _)) _ _) _
 · rw [if_neg hs] at H
   exact absurd H (by simp)

/-! ### impl_partOf: function 39 -/
def impl_partOf.f (a0_0 : Int) (a0_1 : Int) (a0_2 : Int) (a0_3 : Int) (a0_4 : Int) (a1 : Int) : Option (Int) := if a1 = 82 then (some a0_1) else (if a1 = 65 then (some a0_2) else (if a1 = 66 then (some a0_3) else (some a0_4)))
set_option maxHeartbeats 8000000 in
set_option maxRecDepth 100000 in
theorem impl_partOf.calls (a0_0 : Int) (a0_1 : Int) (a0_2 : Int) (a0_3 : Int) (a0_4 : Int) (a1 : Int) (r : Int) (w : World) (h : impl_partOf.f a0_0 a0_1 a0_2 a0_3 a0_4 a1 = some r) :
    Calls Try.prog 39 #[.agg #[.int .i64 a0_0, .int .i64 a0_1, .int .i64 a0_2, .int .i64 a0_3, .int .i64 a0_4], .int .u8 a1] w fun e w' => e = .returned (.int .i64 r) ∧ Below w.heap.size w w' := by
  have hu25 := Try.underlying25
  have HB := Aside0.mk (Below.refl w.heap.size w)
  have H : (if a1 = 82 then (some a0_1) else (if a1 = 65 then (some a0_2) else (if a1 = 66 then (some a0_3) else (some a0_4)))) = some r := h
  clear h
  by_cases c3 : a1 = 82
  · rw [if_pos c3] at H
    have c3b0 : (a1 == 82) = true := beq_iff_eq.mpr c3
    have c3b1 : (a1 != 82) = false := bne_eq_false_iff_eq.mpr c3
    clear c3
    obtain rfl := Option.some.inj H
    go_enter Try.func39, Try.ntmps39
    go_wp2_with (first | ((with_reducible refine gate_dst (N := 2) rfl ?_); refine box_event ?hg (N := 2) ?hd (cs := #[.int .i64 a0_0, .int .i64 a0_1, .int .i64 a0_2, .int .i64 a0_3, .int .i64 a0_4]) (t := 25) ?hr ?_; (case hd => rfl); (case hg => rfl); (case hr => first | (go_simp; done) | (go_simp; rfl)); intro gb132 hg w4 hbox hb; have n0_ := nbs HB hb; have n1_ := Aside0.mk (hbox); have n2_ := nge HB hg; have n3_ := nge HB hg; clear HB; have HB := n0_; have BK132 := n1_; have GW132 := n2_; have GE132 := n3_; clear n0_ n1_ n2_ n3_; clear hb hbox hg; obtain ⟨hcz5_0, hcz5_1, hcz5_2, hcz5_3, hcz5_4⟩ := c5e BK132; have hfz5_0 := blk_frozen BK132.out 0; have hfz5_1 := blk_frozen BK132.out 1; have hfz5_2 := blk_frozen BK132.out 2; have hfz5_3 := blk_frozen BK132.out 3; have hfz5_4 := blk_frozen BK132.out 4))
    go_ret
    exact ⟨by first | rfl | (simp [errW_none, errW_some] <;> rfl) | (simp [*, errW_none, errW_some] <;> rfl), by repeat (first | (with_reducible first | exact HB.out | apply below_alloc | apply pw_below_drewN | apply below_drew1 | refine below_set ?_ GE132.out) | exact HB.out)⟩
  · rw [if_neg c3] at H
    have c3b0 : (a1 == 82) = false := beq_eq_false_iff_ne.mpr c3
    have c3b1 : (a1 != 82) = true := bne_iff_ne.mpr c3
    by_cases c6 : a1 = 65
    · rw [if_pos c6] at H
      have c6b0 : (a1 == 65) = true := beq_iff_eq.mpr c6
      have c6b1 : (a1 != 65) = false := bne_eq_false_iff_eq.mpr c6
      clear c6
      obtain rfl := Option.some.inj H
      go_enter Try.func39, Try.ntmps39
      go_wp2_with (first | ((with_reducible refine gate_dst (N := 2) rfl ?_); refine box_event ?hg (N := 2) ?hd (cs := #[.int .i64 a0_0, .int .i64 a0_1, .int .i64 a0_2, .int .i64 a0_3, .int .i64 a0_4]) (t := 25) ?hr ?_; (case hd => rfl); (case hg => rfl); (case hr => first | (go_simp; done) | (go_simp; rfl)); intro gb132 hg w7 hbox hb; have n0_ := nbs HB hb; have n1_ := Aside0.mk (hbox); have n2_ := nge HB hg; have n3_ := nge HB hg; clear HB; have HB := n0_; have BK132 := n1_; have GW132 := n2_; have GE132 := n3_; clear n0_ n1_ n2_ n3_; clear hb hbox hg; obtain ⟨hcz8_0, hcz8_1, hcz8_2, hcz8_3, hcz8_4⟩ := c5e BK132; have hfz8_0 := blk_frozen BK132.out 0; have hfz8_1 := blk_frozen BK132.out 1; have hfz8_2 := blk_frozen BK132.out 2; have hfz8_3 := blk_frozen BK132.out 3; have hfz8_4 := blk_frozen BK132.out 4))
      go_ret
      exact ⟨by first | rfl | (simp [errW_none, errW_some] <;> rfl) | (simp [*, errW_none, errW_some] <;> rfl), by repeat (first | (with_reducible first | exact HB.out | apply below_alloc | apply pw_below_drewN | apply below_drew1 | refine below_set ?_ GE132.out) | exact HB.out)⟩
    · rw [if_neg c6] at H
      have c6b0 : (a1 == 65) = false := beq_eq_false_iff_ne.mpr c6
      have c6b1 : (a1 != 65) = true := bne_iff_ne.mpr c6
      by_cases c9 : a1 = 66
      · rw [if_pos c9] at H
        have c9b0 : (a1 == 66) = true := beq_iff_eq.mpr c9
        have c9b1 : (a1 != 66) = false := bne_eq_false_iff_eq.mpr c9
        clear c9
        obtain rfl := Option.some.inj H
        go_enter Try.func39, Try.ntmps39
        go_wp2_with (first | ((with_reducible refine gate_dst (N := 2) rfl ?_); refine box_event ?hg (N := 2) ?hd (cs := #[.int .i64 a0_0, .int .i64 a0_1, .int .i64 a0_2, .int .i64 a0_3, .int .i64 a0_4]) (t := 25) ?hr ?_; (case hd => rfl); (case hg => rfl); (case hr => first | (go_simp; done) | (go_simp; rfl)); intro gb132 hg w10 hbox hb; have n0_ := nbs HB hb; have n1_ := Aside0.mk (hbox); have n2_ := nge HB hg; have n3_ := nge HB hg; clear HB; have HB := n0_; have BK132 := n1_; have GW132 := n2_; have GE132 := n3_; clear n0_ n1_ n2_ n3_; clear hb hbox hg; obtain ⟨hcz11_0, hcz11_1, hcz11_2, hcz11_3, hcz11_4⟩ := c5e BK132; have hfz11_0 := blk_frozen BK132.out 0; have hfz11_1 := blk_frozen BK132.out 1; have hfz11_2 := blk_frozen BK132.out 2; have hfz11_3 := blk_frozen BK132.out 3; have hfz11_4 := blk_frozen BK132.out 4))
        go_ret
        exact ⟨by first | rfl | (simp [errW_none, errW_some] <;> rfl) | (simp [*, errW_none, errW_some] <;> rfl), by repeat (first | (with_reducible first | exact HB.out | apply below_alloc | apply pw_below_drewN | apply below_drew1 | refine below_set ?_ GE132.out) | exact HB.out)⟩
      · rw [if_neg c9] at H
        have c9b0 : (a1 == 66) = false := beq_eq_false_iff_ne.mpr c9
        have c9b1 : (a1 != 66) = true := bne_iff_ne.mpr c9
        obtain rfl := Option.some.inj H
        go_enter Try.func39, Try.ntmps39
        go_wp2_with (first | ((with_reducible refine gate_dst (N := 2) rfl ?_); refine box_event ?hg (N := 2) ?hd (cs := #[.int .i64 a0_0, .int .i64 a0_1, .int .i64 a0_2, .int .i64 a0_3, .int .i64 a0_4]) (t := 25) ?hr ?_; (case hd => rfl); (case hg => rfl); (case hr => first | (go_simp; done) | (go_simp; rfl)); intro gb132 hg w12 hbox hb; have n0_ := nbs HB hb; have n1_ := Aside0.mk (hbox); have n2_ := nge HB hg; have n3_ := nge HB hg; clear HB; have HB := n0_; have BK132 := n1_; have GW132 := n2_; have GE132 := n3_; clear n0_ n1_ n2_ n3_; clear hb hbox hg; obtain ⟨hcz13_0, hcz13_1, hcz13_2, hcz13_3, hcz13_4⟩ := c5e BK132; have hfz13_0 := blk_frozen BK132.out 0; have hfz13_1 := blk_frozen BK132.out 1; have hfz13_2 := blk_frozen BK132.out 2; have hfz13_3 := blk_frozen BK132.out 3; have hfz13_4 := blk_frozen BK132.out 4))
        go_ret
        exact ⟨by first | rfl | (simp [errW_none, errW_some] <;> rfl) | (simp [*, errW_none, errW_some] <;> rfl), by repeat (first | (with_reducible first | exact HB.out | apply below_alloc | apply pw_below_drewN | apply below_drew1 | refine below_set ?_ GE132.out) | exact HB.out)⟩

/-! ### impl_InsOk: function 14 -/
def impl_InsOk.l0 : Nat → Bool → Int → Int → Int → Int → Int → Int → Option (Bool)
  | 0, _, _, _, _, _, _, _ => none
  | k + 1, x4, i, op, r, a, b, n => if i < 4 then (if 0 ≤ i then ((impl_partOf.f op r a b n (rd [82, 65, 66, 78] i)).bind fun t => ((impl_hasPart.f k op r a b n (rd [82, 65, 66, 78] i)).bind fun h => (if h = true then (if (rd [82, 65, 66, 78] i) = 78 then (if x4 = true then ((impl_in.f t (-128) 127).bind fun q => (impl_InsOk.l0 k q (wrap64 (i + 1)) op r a b n)) else (impl_InsOk.l0 k false (wrap64 (i + 1)) op r a b n)) else (if x4 = true then ((impl_in.f t 0 7).bind fun q => (impl_InsOk.l0 k q (wrap64 (i + 1)) op r a b n)) else (impl_InsOk.l0 k false (wrap64 (i + 1)) op r a b n))) else (if x4 = true then (impl_InsOk.l0 k (t == 0) (wrap64 (i + 1)) op r a b n) else (impl_InsOk.l0 k false (wrap64 (i + 1)) op r a b n))))) else none) else (some x4)
def impl_InsOk.f (k : Nat) (a0_0 : Int) (a0_1 : Int) (a0_2 : Int) (a0_3 : Int) (a0_4 : Int) : Option (Bool) := (impl_formOf.f k a0_0).bind fun bt => (impl_InsOk.l0 k bt.2 0 a0_0 a0_1 a0_2 a0_3 a0_4)
theorem impl_InsOk.mono_l : ∀ k, (∀ y0 y1 y2 y3 y4 y5 y6, LeO (impl_InsOk.l0 k y0 y1 y2 y3 y4 y5 y6) (impl_InsOk.l0 (k + 1) y0 y1 y2 y3 y4 y5 y6))
  | 0 => fun _ _ _ _ _ _ _ r h => by simp [impl_InsOk.l0] at h
  | k + 1 => by
    have ih0 := impl_InsOk.mono_l k
    · intro y0 y1 y2 y3 y4 y5 y6
      unfold impl_InsOk.l0
      repeat' first
      | (with_reducible exact ih0 _ _ _ _ _ _ _)
      | (with_reducible exact impl_hasPart.mono _ _ _ _ _ _ _)
      | (with_reducible exact impl_formOf.mono _ _)
      | (with_reducible exact LeO.refl _)
      | (with_reducible exact LeO.none _)
      | (with_reducible refine LeO.ite ?_ ?_)
      | (with_reducible refine LeO.bind ?_ (fun _ => ?_))
      | exact ih0 _ _ _ _ _ _ _
      | exact impl_hasPart.mono _ _ _ _ _ _ _
      | exact impl_formOf.mono _ _
      | exact LeO.none _
      | refine LeO.ite ?_ ?_
      | refine LeO.bind ?_ (fun _ => ?_)
theorem impl_InsOk.mono : ∀ a0 a1 a2 a3 a4 k, LeO (impl_InsOk.f k a0 a1 a2 a3 a4) (impl_InsOk.f (k + 1) a0 a1 a2 a3 a4) := by
  intro a0 a1 a2 a3 a4 k
  have ih0 := impl_InsOk.mono_l k
  unfold impl_InsOk.f
  repeat' first
      | (with_reducible exact ih0 _ _ _ _ _ _ _)
      | (with_reducible exact impl_hasPart.mono _ _ _ _ _ _ _)
      | (with_reducible exact impl_formOf.mono _ _)
      | (with_reducible exact LeO.refl _)
      | (with_reducible exact LeO.none _)
      | (with_reducible refine LeO.ite ?_ ?_)
      | (with_reducible refine LeO.bind ?_ (fun _ => ?_))
      | exact ih0 _ _ _ _ _ _ _
      | exact impl_hasPart.mono _ _ _ _ _ _ _
      | exact impl_formOf.mono _ _
      | exact LeO.none _
      | refine LeO.ite ?_ ?_
      | refine LeO.bind ?_ (fun _ => ?_)
theorem impl_InsOk.mk_cell {W : World} {g : Nat} {cs : Array Value} {t : TypeId} {fr : Nat × Nat} {v : Value} (h : W.heap[g]? = some (.cells cs t fr)) (j : Nat) (hj : cs[j]? = some v) : W.cell? ⟨g, j, none⟩ = some v := by
  simp [World.cell?, h, hj]
theorem impl_InsOk.byte {W : World} {g : Nat} (h : W.heap[g]? = some (.cells #[.int .u8 82, .int .u8 65, .int .u8 66, .int .u8 78] 5 (4, 5))) (i : Int) (h0 : 0 ≤ i) (h1 : i < 4) : W.cell? ⟨g, i.toNat, none⟩ = some (.int .u8 (rd [82, 65, 66, 78] i)) := by
  rcases (show i = 0 ∨ i = 1 ∨ i = 2 ∨ i = 3 by omega) with rfl | rfl | rfl | rfl <;> exact impl_InsOk.mk_cell h _ rfl
set_option maxHeartbeats 8000000 in
set_option maxRecDepth 100000 in
theorem impl_InsOk.calls (k : Nat) (a0_0 : Int) (a0_1 : Int) (a0_2 : Int) (a0_3 : Int) (a0_4 : Int) (r : Bool) (w : World) (h : impl_InsOk.f k a0_0 a0_1 a0_2 a0_3 a0_4 = some r) :
  Calls Try.prog 14 #[.agg #[.int .i64 a0_0, .int .i64 a0_1, .int .i64 a0_2, .int .i64 a0_3, .int .i64 a0_4]] w fun e w' => e = .returned (.bool r) ∧ Below w.heap.size w w' := by
 obtain ⟨⟨s, b⟩, A80, H⟩ := Option.bind_eq_some_iff.mp h
 have A8 := Aside0.mk A80
 have H' : Aside0 (impl_InsOk.l0 k b 0 a0_0 a0_1 a0_2 a0_3 a0_4 = some r) := ⟨H⟩
 clear A80 h H
 have HB := Aside0.mk (Below.refl w.heap.size w)
 have kc : ∀ W : World, (convert 42 42 (.slice (some ⟨W.heap.size, 0, none⟩) 4 4)).run Try.prog (W.alloc (.cells #[.int .u8 82, .int .u8 65, .int .u8 66, .int .u8 78] 5)) = .ok (.slice (some ⟨W.heap.size, 0, none⟩) 4 4) (W.alloc (.cells #[.int .u8 82, .int .u8 65, .int .u8 66, .int .u8 78] 5 (4, 5))) := fun W => Lib.run_convert_bytes_const (P := Try.prog) W 42 5 _ 4 4 Try.underlying42 Try.underlying5
 go_enter Try.func14, Try.ntmps14
 go_wp2_with (first | ((with_reducible refine gate_dst (N := 1) rfl ?_); refine box_event ?hg (N := 1) ?hd (cs := #[.int .i64 a0_0, .int .i64 a0_1, .int .i64 a0_2, .int .i64 a0_3, .int .i64 a0_4]) (t := 25) ?hr ?_; (case hd => rfl); (case hg => rfl); (case hr => first | (go_simp; done) | (go_simp; rfl)); intro gb hg w3 hbox hb; have BK := Aside0.mk (hbox); replace HB := nbs HB hb; clear hb hbox hg; obtain ⟨hcz_0, hcz_1, hcz_2, hcz_3, hcz_4⟩ := c5e BK) | ((with_reducible refine gate_callee (f := 38) rfl ?_); refine goesM (some 11) rfl rfl Try.func38 (by kernel_rfl) rfl #[.int .i64 a0_0] rfl ?_; (with_reducible refine (impl_formOf.calls k a0_0 s b _ A8.out).mono ?_); rintro e w4 ⟨rfl, hd⟩; have hb := hd.below; refine ⟨_, rfl, ?_⟩; replace BK := nblk BK hb; replace HB := nbs HB hb; clear hb hd hcz_0 hcz_1 hcz_2 hcz_3 hcz_4))
 have BY : Aside0 ((w4.alloc (.cells #[.int .u8 82, .int .u8 65, .int .u8 66, .int .u8 78] 5 (4, 5))).heap[w4.heap.size]? = some (.cells #[.int .u8 82, .int .u8 65, .int .u8 66, .int .u8 78] 5 (4, 5))) := ⟨by show (w4.heap.push _)[w4.heap.size]? = _; simp⟩
 clear kc
 go_loopg [4, 17] k (fun kq v4 v17 w' => ∃ (x4 : Bool) (x17 : Int), v4 = .bool x4 ∧ v17 = .int .i64 x17 ∧ Aside0 (impl_InsOk.l0 kq x4 x17 a0_0 a0_1 a0_2 a0_3 a0_4 = some r) ∧ Aside0 (kq ≤ k) ∧ Aside0 (w'.heap[w4.heap.size]? = some (.cells #[.int .u8 82, .int .u8 65, .int .u8 66, .int .u8 78] 5 (4, 5))) ∧ Aside0 (w'.heap[gb]? = some (.cells #[.int .i64 a0_0, .int .i64 a0_1, .int .i64 a0_2, .int .i64 a0_3, .int .i64 a0_4] 25 (0, 0))) ∧ Aside0 (Below w.heap.size w w'))
 case atStart => exact ⟨b, 0, rfl, rfl, H', ⟨Nat.le_refl _⟩, BY, ⟨blk_alloc BK.out _⟩, ⟨below_alloc HB.out _⟩⟩
 case round =>
  clear H' BY BK HB
  obtain ⟨x4, x17, rfl, rfl, HA, HK, BY, BK, HB⟩ := hrel
  cases gk with
  | zero => exact absurd HA.out (by simp [impl_InsOk.l0])
  | succ k1 =>
   have H := HA.out
   clear HA
   simp only [impl_InsOk.l0] at H
   by_cases c8 : x17 < 4
   · rw [if_pos c8] at H
     by_cases c9 : 0 ≤ x17
     · rw [if_pos c9] at H
       replace H := Option.bind_eq_some_iff.mp H
       obtain ⟨t, A110, H⟩ := H
       have A11 := Aside0.mk A110
       replace H := Option.bind_eq_some_iff.mp H
       obtain ⟨hh, A120, H⟩ := H
       have A12 := Aside0.mk A120
       clear A110 A120
       have hby := impl_InsOk.byte BY.out x17 c9 c8
       obtain ⟨hcz_0, hcz_1, hcz_2, hcz_3, hcz_4⟩ := c5e BK
       have c8b : decide (x17 < (4 : Int)) = true := decide_eq_true c8
       have c9b : decide (0 ≤ x17) = true := decide_eq_true c9
       replace c8 := eq_true c8
       replace c9 := eq_true c9
       obtain ⟨q, hq⟩ : ∃ q, q = rd [82, 65, 66, 78] x17 := ⟨_, rfl⟩
       rw [← hq] at hby A11 A12 H
       clear hq
       cases hh with
       | true =>
         by_cases c14 : q = 78
         · have c14b : (q == 78) = true := beq_iff_eq.mpr c14
           rw [if_pos rfl, if_pos c14] at H
           clear c14
           cases x4 with
           | true =>
             rw [if_pos rfl] at H
             replace H := Option.bind_eq_some_iff.mp H
             obtain ⟨t2, A160, H⟩ := H
             have A16 := Aside0.mk A160
             have H' := Aside0.mk H
             clear A160 H
             go_wp2_with (first | (go_at_call 39; (with_reducible refine (impl_partOf.calls a0_0 a0_1 a0_2 a0_3 a0_4 q t _ A11.out).mono ?_); rintro e wA ⟨rfl, hb⟩; replace BY := nblk BY hb; replace BK := nblk BK hb; replace HB := nbs HB hb; clear hb hcz_0 hcz_1 hcz_2 hcz_3 hcz_4; obtain ⟨hcz_0, hcz_1, hcz_2, hcz_3, hcz_4⟩ := c5e BK) | (go_at_call 35; (with_reducible refine (impl_hasPart.calls k1 a0_0 a0_1 a0_2 a0_3 a0_4 q true _ A12.out).mono ?_); rintro e wB ⟨rfl, hb⟩; replace BY := nblk BY hb; replace BK := nblk BK hb; replace HB := nbs HB hb; clear hb) | (go_at_call 40; (with_reducible refine (impl_in.calls t (-128) 127 t2 _ A16.out).mono ?_); rintro e wC ⟨rfl, ⟨nd, rfl⟩⟩))
             go_roundg k1
             case measure => have := HK.out; omega
             case rel => exact ⟨_, _, rfl, rfl, H', ⟨by have := HK.out; omega⟩, ⟨nb BY⟩, ⟨nb BK⟩, ⟨nbe HB⟩⟩
           | false =>
             rw [if_neg (by simp)] at H
             have H' := Aside0.mk H
             clear H
             go_wp2_with (first | (go_at_call 39; (with_reducible refine (impl_partOf.calls a0_0 a0_1 a0_2 a0_3 a0_4 q t _ A11.out).mono ?_); rintro e wA ⟨rfl, hb⟩; replace BY := nblk BY hb; replace BK := nblk BK hb; replace HB := nbs HB hb; clear hb hcz_0 hcz_1 hcz_2 hcz_3 hcz_4; obtain ⟨hcz_0, hcz_1, hcz_2, hcz_3, hcz_4⟩ := c5e BK) | (go_at_call 35; (with_reducible refine (impl_hasPart.calls k1 a0_0 a0_1 a0_2 a0_3 a0_4 q true _ A12.out).mono ?_); rintro e wB ⟨rfl, hb⟩; replace BY := nblk BY hb; replace BK := nblk BK hb; replace HB := nbs HB hb; clear hb))
             go_roundg k1
             case measure => have := HK.out; omega
             case rel => exact ⟨_, _, rfl, rfl, H', ⟨by have := HK.out; omega⟩, ⟨nb BY⟩, ⟨nb BK⟩, ⟨nbe HB⟩⟩
         · have c14b : (q == 78) = false := beq_eq_false_iff_ne.mpr c14
           rw [if_pos rfl, if_neg c14] at H
           clear c14
           cases x4 with
           | true =>
             rw [if_pos rfl] at H
             replace H := Option.bind_eq_some_iff.mp H
             obtain ⟨t2, A160, H⟩ := H
             have A16 := Aside0.mk A160
             have H' := Aside0.mk H
             clear A160 H
             go_wp2_with (first | (go_at_call 39; (with_reducible refine (impl_partOf.calls a0_0 a0_1 a0_2 a0_3 a0_4 q t _ A11.out).mono ?_); rintro e wA ⟨rfl, hb⟩; replace BY := nblk BY hb; replace BK := nblk BK hb; replace HB := nbs HB hb; clear hb hcz_0 hcz_1 hcz_2 hcz_3 hcz_4; obtain ⟨hcz_0, hcz_1, hcz_2, hcz_3, hcz_4⟩ := c5e BK) | (go_at_call 35; (with_reducible refine (impl_hasPart.calls k1 a0_0 a0_1 a0_2 a0_3 a0_4 q true _ A12.out).mono ?_); rintro e wB ⟨rfl, hb⟩; replace BY := nblk BY hb; replace BK := nblk BK hb; replace HB := nbs HB hb; clear hb) | (go_at_call 40; (with_reducible refine (impl_in.calls t 0 7 t2 _ A16.out).mono ?_); rintro e wC ⟨rfl, ⟨nd, rfl⟩⟩))
             go_roundg k1
             case measure => have := HK.out; omega
             case rel => exact ⟨_, _, rfl, rfl, H', ⟨by have := HK.out; omega⟩, ⟨nb BY⟩, ⟨nb BK⟩, ⟨nbe HB⟩⟩
           | false =>
             rw [if_neg (by simp)] at H
             have H' := Aside0.mk H
             clear H
             go_wp2_with (first | (go_at_call 39; (with_reducible refine (impl_partOf.calls a0_0 a0_1 a0_2 a0_3 a0_4 q t _ A11.out).mono ?_); rintro e wA ⟨rfl, hb⟩; replace BY := nblk BY hb; replace BK := nblk BK hb; replace HB := nbs HB hb; clear hb hcz_0 hcz_1 hcz_2 hcz_3 hcz_4; obtain ⟨hcz_0, hcz_1, hcz_2, hcz_3, hcz_4⟩ := c5e BK) | (go_at_call 35; (with_reducible refine (impl_hasPart.calls k1 a0_0 a0_1 a0_2 a0_3 a0_4 q true _ A12.out).mono ?_); rintro e wB ⟨rfl, hb⟩; replace BY := nblk BY hb; replace BK := nblk BK hb; replace HB := nbs HB hb; clear hb))
             go_roundg k1
             case measure => have := HK.out; omega
             case rel => exact ⟨_, _, rfl, rfl, H', ⟨by have := HK.out; omega⟩, ⟨nb BY⟩, ⟨nb BK⟩, ⟨nbe HB⟩⟩
       | false =>
         rw [if_neg (by simp)] at H
         cases x4 with
         | true =>
           rw [if_pos rfl] at H
           have H' := Aside0.mk H
           clear H
           go_wp2_with (first | (go_at_call 39; (with_reducible refine (impl_partOf.calls a0_0 a0_1 a0_2 a0_3 a0_4 q t _ A11.out).mono ?_); rintro e wA ⟨rfl, hb⟩; replace BY := nblk BY hb; replace BK := nblk BK hb; replace HB := nbs HB hb; clear hb hcz_0 hcz_1 hcz_2 hcz_3 hcz_4; obtain ⟨hcz_0, hcz_1, hcz_2, hcz_3, hcz_4⟩ := c5e BK) | (go_at_call 35; (with_reducible refine (impl_hasPart.calls k1 a0_0 a0_1 a0_2 a0_3 a0_4 q false _ A12.out).mono ?_); rintro e wB ⟨rfl, hb⟩; replace BY := nblk BY hb; replace BK := nblk BK hb; replace HB := nbs HB hb; clear hb))
           go_roundg k1
           case measure => have := HK.out; omega
           case rel => exact ⟨_, _, rfl, rfl, H', ⟨by have := HK.out; omega⟩, ⟨nb BY⟩, ⟨nb BK⟩, ⟨nbe HB⟩⟩
         | false =>
           rw [if_neg (by simp)] at H
           have H' := Aside0.mk H
           clear H
           go_wp2_with (first | (go_at_call 39; (with_reducible refine (impl_partOf.calls a0_0 a0_1 a0_2 a0_3 a0_4 q t _ A11.out).mono ?_); rintro e wA ⟨rfl, hb⟩; replace BY := nblk BY hb; replace BK := nblk BK hb; replace HB := nbs HB hb; clear hb hcz_0 hcz_1 hcz_2 hcz_3 hcz_4; obtain ⟨hcz_0, hcz_1, hcz_2, hcz_3, hcz_4⟩ := c5e BK) | (go_at_call 35; (with_reducible refine (impl_hasPart.calls k1 a0_0 a0_1 a0_2 a0_3 a0_4 q false _ A12.out).mono ?_); rintro e wB ⟨rfl, hb⟩; replace BY := nblk BY hb; replace BK := nblk BK hb; replace HB := nbs HB hb; clear hb))
           go_roundg k1
           case measure => have := HK.out; omega
           case rel => exact ⟨_, _, rfl, rfl, H', ⟨by have := HK.out; omega⟩, ⟨nb BY⟩, ⟨nb BK⟩, ⟨nbe HB⟩⟩
     · rw [if_neg c9] at H
       exact absurd H (by simp)
   · rw [if_neg c8] at H
     obtain rfl : x4 = r := by simpa using H
     clear H
     have c8b : decide (x17 < (4 : Int)) = false := decide_eq_false c8
     go_wp2
     go_ret
     exact ⟨rfl, HB.out⟩

/-! ### impl_CodeOk_1: function 42 -/
def impl_CodeOk_1.f (k : Nat) (a0_0 : Int) (a0_1 : Int) (a0_2 : Int) (a0_3 : Int) (a0_4 : Int) : Option (Bool) := (impl_InsOk.f k a0_0 a0_1 a0_2 a0_3 a0_4).bind fun t134 => (some (!t134))
theorem impl_CodeOk_1.mono : ∀ a0 a1 a2 a3 a4 k, LeO (impl_CodeOk_1.f k a0 a1 a2 a3 a4) (impl_CodeOk_1.f (k + 1) a0 a1 a2 a3 a4) := by
  intro a0 a1 a2 a3 a4 k
  unfold impl_CodeOk_1.f
  repeat' first
      | (with_reducible exact impl_InsOk.mono _ _ _ _ _ _)
      | (with_reducible exact LeO.refl _)
      | (with_reducible exact LeO.none _)
      | (with_reducible refine LeO.ite ?_ ?_)
      | (with_reducible refine LeO.bind ?_ (fun _ => ?_))
      | exact impl_InsOk.mono _ _ _ _ _ _
      | exact LeO.none _
      | refine LeO.ite ?_ ?_
      | refine LeO.bind ?_ (fun _ => ?_)
set_option maxHeartbeats 8000000 in
set_option maxRecDepth 100000 in
theorem impl_CodeOk_1.calls (k : Nat) (a0_0 : Int) (a0_1 : Int) (a0_2 : Int) (a0_3 : Int) (a0_4 : Int) (r : Bool) (w : World) (h : impl_CodeOk_1.f k a0_0 a0_1 a0_2 a0_3 a0_4 = some r) :
    Calls Try.prog 42 #[.agg #[.int .i64 a0_0, .int .i64 a0_1, .int .i64 a0_2, .int .i64 a0_3, .int .i64 a0_4]] w fun e w' => e = .returned (.bool r) ∧ Below w.heap.size w w' := by
  have hu25 := Try.underlying25
  have HB := Aside0.mk (Below.refl w.heap.size w)
  have H : ((impl_InsOk.f k a0_0 a0_1 a0_2 a0_3 a0_4).bind fun t134 => (some (!t134))) = some r := h
  clear h
  replace H := Option.bind_eq_some_iff.mp H
  obtain ⟨t134, A20, H⟩ := H
  replace H : (some (!t134)) = some r := H
  have A2 := Aside0.mk A20
  clear A20
  obtain rfl := Option.some.inj H
  go_enter Try.func42, Try.ntmps42
  go_wp2_with (first | ((with_reducible refine gate_dst (N := 1) rfl ?_); refine box_event ?hg (N := 1) ?hd (cs := #[.int .i64 a0_0, .int .i64 a0_1, .int .i64 a0_2, .int .i64 a0_3, .int .i64 a0_4]) (t := 25) ?hr ?_; (case hd => rfl); (case hg => rfl); (case hr => first | (go_simp; done) | (go_simp; rfl)); intro gb133 hg w3 hbox hb; have n0_ := nbs HB hb; have n1_ := Aside0.mk (hbox); have n2_ := nge HB hg; have n3_ := nge HB hg; clear HB; have HB := n0_; have BK133 := n1_; have GW133 := n2_; have GE133 := n3_; clear n0_ n1_ n2_ n3_; clear hb hbox hg; obtain ⟨hcz4_0, hcz4_1, hcz4_2, hcz4_3, hcz4_4⟩ := c5e BK133; have hfz4_0 := blk_frozen BK133.out 0; have hfz4_1 := blk_frozen BK133.out 1; have hfz4_2 := blk_frozen BK133.out 2; have hfz4_3 := blk_frozen BK133.out 3; have hfz4_4 := blk_frozen BK133.out 4) | ((with_reducible refine gate_callee (f := 14) rfl ?_); refine goesM (some 4) rfl rfl Try.func14 (by kernel_rfl) rfl #[.agg #[.int .i64 a0_0, .int .i64 a0_1, .int .i64 a0_2, .int .i64 a0_3, .int .i64 a0_4]] rfl ?_; (with_reducible refine (impl_InsOk.calls k a0_0 a0_1 a0_2 a0_3 a0_4 t134 _ A2.out).mono ?_); rintro e w5 ⟨rfl, hb⟩; refine ⟨_, rfl, ?_⟩; have n0_ := nblk BK133 hb; have n1_ := nbs HB hb; clear BK133 HB; have BK133 := n0_; have HB := n1_; clear n0_ n1_; (try clear hb)))
  go_ret
  exact ⟨by first | rfl | (simp [errW_none, errW_some] <;> rfl) | (simp [*, errW_none, errW_some] <;> rfl), by repeat (first | (with_reducible first | exact HB.out | apply below_alloc | apply pw_below_drewN | apply below_drew1 | refine below_set ?_ GE133.out) | exact HB.out)⟩

end Go.Proofs.Ytopbiecjfhfhdaa.PFnExactCodeOk
