/- The program's Unpack and the reference's give the same answer at all arguments; no conditions. -/
import Derived.Test.YtoiffjimmjehnaaPFnExactUnpackx1
namespace Go.Proofs.Ytoiffjimmjehnaa.Pure
open Go.RowKit Go.Proofs.Ytoiffjimmjehnaa.PFnExactUnpack Go.Proofs.YtoiffjimmjehnaaW.PrintWords Go.Proofs.YtoiffjimmjehnaaW.PrintLast Go.Proofs.YtoiffjimmjehnaaW.PrintMore
set_option linter.unusedVariables false
set_option linter.unusedSimpArgs false

def laws_FnExactUnpack.Pure : Prop := ∀ (a0_0 : Int) (a0_1 : Int) (a0_2 : Int), (Lit.int .i64 a0_0).wf = true → (Lit.int .i64 a0_1).wf = true → (Lit.int .i64 a0_2).wf = true → laws_FnExactUnpack.f a0_0 a0_1 a0_2 = some true

theorem i64_bits : IntKind.i64.bits = 64 := rfl
theorem wrap_i64' (n : Int) : IntKind.i64.wrap n = wrap64 n := by unfold wrap64; exact IntKind.wrap_i64 n
theorem wrap_in {n : Int} (h0 : -9223372036854775808 ≤ n) (h1 : n ≤ 9223372036854775807) : wrap64 n = n := by unfold wrap64; omega
theorem wrap_lo (n : Int) : -9223372036854775808 ≤ wrap64 n ∧ wrap64 n ≤ 9223372036854775807 := by unfold wrap64; omega

theorem impl_in_eq (n lo hi : Int) : impl_in.f n lo hi = some (decide (lo ≤ n ∧ n ≤ hi)) := by
  unfold impl_in.f; by_cases h : n ≥ lo
  · rw [if_pos h]; simp [show lo ≤ n from h]
  · rw [if_neg h]; simp [show ¬ lo ≤ n from h]
theorem spec_in_eq (n lo hi : Int) : spec_l1In.f n lo hi = some (decide (lo ≤ n ∧ n ≤ hi)) := by
  unfold spec_l1In.f; by_cases h : n ≥ lo
  · rw [if_pos h]; simp [show lo ≤ n from h]
  · rw [if_neg h]; simp [show ¬ lo ≤ n from h]

theorem shl_of {x e u : Int} (p : Nat) (hu : u = 2 ^ p) (he : e = p) (hp : p ≤ 63) (h0 : -9223372036854775808 ≤ x * u) (h1 : x * u ≤ 9223372036854775807) : shl .i64 x e = x * u := by
  subst hu he
  unfold shl
  rw [i64_bits, wrap_i64', Int.toNat_natCast, Nat.min_eq_left (by omega)]
  exact wrap_in h0 h1
theorem shr_of {x e u : Int} (p : Nat) (hu : u = 2 ^ p) (he : e = p) (hp : p ≤ 63) : shr .i64 x e = x / u := by
  subst hu he
  unfold shr
  rw [i64_bits, Int.toNat_natCast, Nat.min_eq_left (by omega)]

def mn4 (x : Int) : Int := if x < 4096 then x else 4096
def unpM (e b l : Int) : Int × Int × Bool :=
  if 0 ≤ e ∧ e ≤ 6 ∧ 0 ≤ b ∧ b ≤ 63 ∧ 0 ≤ l ∧ l ≤ 63 then (b * 2 ^ e.toNat, mn4 ((b + l) * 2 ^ e.toNat), true) else (0, 0, false)
theorem pow_le6 {e : Int} (h : 0 ≤ e ∧ e ≤ 6) : 1 ≤ (2 : Int) ^ e.toNat ∧ (2 : Int) ^ e.toNat ≤ 64 := by
  have h' : e = 0 ∨ e = 1 ∨ e = 2 ∨ e = 3 ∨ e = 4 ∨ e = 5 ∨ e = 6 := by omega
  rcases h' with rfl | rfl | rfl | rfl | rfl | rfl | rfl <;> decide
theorem shl_small6 {x e : Int} (h : 0 ≤ e ∧ e ≤ 6) (hx : 0 ≤ x ∧ x ≤ 100000) : shl .i64 x e = x * 2 ^ e.toNat := by
  have hp := pow_le6 h
  have h0 : 0 ≤ x * 2 ^ e.toNat := Int.mul_nonneg hx.1 (by omega)
  have h1 : x * 2 ^ e.toNat ≤ 100000 * 64 := by
    have := Int.mul_le_mul hx.2 hp.2 (by omega) (by omega); omega
  exact shl_of e.toNat rfl (by omega) (by omega) (by omega) (by omega)
theorem impl_Unpack_eq (e b l : Int) : impl_Unpack.f e b l = some (unpM e b l) := by
  unfold impl_Unpack.f unpM
  simp only [impl_in_eq, Option.bind_some]
  by_cases h1 : 0 ≤ e ∧ e ≤ 6
  · rw [if_pos (decide_eq_true h1)]
    by_cases h2 : 0 ≤ b ∧ b ≤ 63
    · rw [if_pos (decide_eq_true h2)]
      by_cases h3 : 0 ≤ l ∧ l ≤ 63
      · rw [if_pos (decide_eq_true h3), if_pos h1.1, if_pos ⟨h1.1, h1.2, h2.1, h2.2, h3.1, h3.2⟩, shl_small6 h1 ⟨h2.1, by omega⟩,
          wrap_in (n := b + l) (by omega) (by omega), shl_small6 (x := b + l) h1 ⟨by omega, by omega⟩]
        rfl
      · rw [if_neg (by simpa using h3), if_neg (by omega)]
    · rw [if_neg (by simpa using h2), if_neg (by omega)]
  · rw [if_neg (by simpa using h1), if_neg (by omega)]
theorem spec_Min4 (a : Int) : spec_l1Min.f a 4096 = some (mn4 a) := by unfold spec_l1Min.f mn4; split <;> rfl
theorem spec_Unpack_eq (e b l : Int) : spec_Unpack.f e b l = some (unpM e b l) := by
  unfold spec_Unpack.f unpM
  simp only [spec_in_eq, spec_Min4, Option.bind_some]
  by_cases h1 : 0 ≤ e ∧ e ≤ 6
  · rw [if_pos (decide_eq_true h1)]
    by_cases h2 : 0 ≤ b ∧ b ≤ 63
    · rw [if_pos (decide_eq_true h2)]
      by_cases h3 : 0 ≤ l ∧ l ≤ 63
      · rw [if_pos (decide_eq_true h3), if_pos h1.1, if_pos ⟨h1.1, h1.2, h2.1, h2.2, h3.1, h3.2⟩, shl_small6 h1 ⟨h2.1, by omega⟩,
          wrap_in (n := b + l) (by omega) (by omega), shl_small6 (x := b + l) h1 ⟨by omega, by omega⟩]
      · rw [if_neg (by simpa using h3), if_neg (by omega)]
    · rw [if_neg (by simpa using h2), if_neg (by omega)]
  · rw [if_neg (by simpa using h1), if_neg (by omega)]

theorem FnExactUnpack : laws_FnExactUnpack.Pure := by
  intro a b c _ _ _
  unfold laws_FnExactUnpack.f laws_toPacked.f
  simp only [Option.bind_some, spec_Unpack_eq, impl_Unpack_eq]
  simp

end Go.Proofs.Ytoiffjimmjehnaa.Pure
