/- The program's BoundsOk and the reference's give the same answer at all arguments; no conditions. -/
import Derived.Test.YtoiffjimmjehnaaPFnExactBoundsOkx1
namespace Go.Proofs.Ytoiffjimmjehnaa.Pure
open Go.RowKit Go.Proofs.Ytoiffjimmjehnaa.PFnExactBoundsOk Go.Proofs.YtoiffjimmjehnaaW.PrintWords Go.Proofs.YtoiffjimmjehnaaW.PrintLast Go.Proofs.YtoiffjimmjehnaaW.PrintMore
set_option linter.unusedVariables false
set_option linter.unusedSimpArgs false

theorem i64_bits : IntKind.i64.bits = 64 := rfl
theorem wrap_i64' (n : Int) : IntKind.i64.wrap n = wrap64 n := by unfold wrap64; exact IntKind.wrap_i64 n
theorem wrap_in {n : Int} (h0 : -9223372036854775808 ≤ n) (h1 : n ≤ 9223372036854775807) : wrap64 n = n := by unfold wrap64; omega
theorem wrap_lo (n : Int) : -9223372036854775808 ≤ wrap64 n ∧ wrap64 n ≤ 9223372036854775807 := by unfold wrap64; omega

def bOk (b t : Int) : Bool := decide (0 ≤ b ∧ b ≤ t ∧ t ≤ 4096)
theorem bOk_iff (b t : Int) : bOk b t = true ↔ (0 ≤ b ∧ b ≤ t ∧ t ≤ 4096) := by unfold bOk; simp
theorem impl_in_eq (n lo hi : Int) : impl_in.f n lo hi = some (decide (lo ≤ n ∧ n ≤ hi)) := by
  unfold impl_in.f; by_cases h : n ≥ lo
  · rw [if_pos h]; simp [show lo ≤ n from h]
  · rw [if_neg h]; simp [show ¬ lo ≤ n from h]
theorem spec_in_eq (n lo hi : Int) : spec_l1In.f n lo hi = some (decide (lo ≤ n ∧ n ≤ hi)) := by
  unfold spec_l1In.f; by_cases h : n ≥ lo
  · rw [if_pos h]; simp [show lo ≤ n from h]
  · rw [if_neg h]; simp [show ¬ lo ≤ n from h]
theorem impl_BoundsOk_eq (a b : Int) : impl_BoundsOk.f a b = some (bOk a b) := by
  unfold impl_BoundsOk.f bOk; rw [impl_in_eq]; simp only [Option.bind_some]
  by_cases h : 0 ≤ a ∧ a ≤ b
  · rw [if_pos (decide_eq_true h)]; simp [h.1, h.2]
  · rw [if_neg (by simpa using h)]; congr 1; symm; simp; omega
theorem spec_BoundsOk_eq (a b : Int) : spec_BoundsOk.f a b = some (bOk a b) := by
  unfold spec_BoundsOk.f bOk; rw [spec_in_eq, spec_in_eq]; simp only [Option.bind_some]
  by_cases h : 0 ≤ a ∧ a ≤ 4096
  · rw [if_pos (decide_eq_true h)]
    by_cases h2 : 0 ≤ b ∧ b ≤ 4096
    · rw [if_pos (decide_eq_true h2)]; congr 1; rw [decide_eq_decide]; omega
    · rw [if_neg (by simpa using h2)]; congr 1; symm; simp; omega
  · rw [if_neg (by simpa using h)]; congr 1; symm; simp; omega

theorem FnExactBoundsOk : laws_FnExactBoundsOk.Pure := by
  intro a b _ _
  unfold laws_FnExactBoundsOk.f
  rw [spec_BoundsOk_eq, impl_BoundsOk_eq]; simp

end Go.Proofs.Ytoiffjimmjehnaa.Pure
