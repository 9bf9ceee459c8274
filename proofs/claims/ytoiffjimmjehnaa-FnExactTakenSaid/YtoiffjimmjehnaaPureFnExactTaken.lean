/- The program's Taken and the reference's give the same word at all words; no conditions. -/
import Derived.Test.YtoiffjimmjehnaaPFnExactTakenx2
namespace Go.Proofs.Ytoiffjimmjehnaa.Pure
open Go.RowKit Go.Proofs.Ytoiffjimmjehnaa.PFnExactTaken Go.Proofs.YtoiffjimmjehnaaW.PrintWords Go.Proofs.YtoiffjimmjehnaaW.PrintLast Go.Proofs.YtoiffjimmjehnaaW.PrintMore
set_option linter.unusedVariables false
set_option linter.unusedSimpArgs false

def laws_FnExactTaken.Mine : Prop := ∀ (a0_0 : Int) (a0_1 : Bool) (a0_2 : Int) (a0_3 : Int) (a0_4 : Int) (a0_5 : Int) (a1_0 : Int) (a1_1 : Bool) (a1_2 : Int) (a1_3 : Int) (a1_4 : Int) (a1_5 : Int), (Lit.int .i64 a0_0).wf = true → (Lit.int .i64 a0_2).wf = true → (Lit.int .i64 a0_3).wf = true → (Lit.int .i64 a0_4).wf = true → (Lit.int .i64 a0_5).wf = true → (Lit.int .i64 a1_0).wf = true → (Lit.int .i64 a1_2).wf = true → (Lit.int .i64 a1_3).wf = true → (Lit.int .i64 a1_4).wf = true → (Lit.int .i64 a1_5).wf = true → laws_FnExactTaken.f a0_0 a0_1 a0_2 a0_3 a0_4 a0_5 a1_0 a1_1 a1_2 a1_3 a1_4 a1_5 = some true

theorem eqKey_same (a b c d : Int) : laws_eqKey.f a b c d a b c d = some true := by unfold laws_eqKey.f; simp

theorem eqWord_same (n : Int) (i : Bool) (a b c d : Int) : laws_eqWord.f n i a b c d n i a b c d = some true := by
  unfold laws_eqWord.f; simp [eqKey_same]

theorem toKey_eq (a b c d : Int) : laws_toKey.f a b c d = some (a, b, c, d) := rfl
theorem toWord_eq (n : Int) (i : Bool) (a b c d : Int) : laws_toWord.f n i a b c d = some (n, i, a, b, c, d) := rfl

theorem FnExactTaken : laws_FnExactTaken.Mine := by
  unfold laws_FnExactTaken.Mine
  intros
  unfold laws_FnExactTaken.f
  simp only [toWord_eq, Option.bind_some, spec_Taken.f, impl_Taken.f, impl_permits.f, spec_Bare.f, impl_Bare.f, spec_Plain.f, impl_Plain.f]
  split <;> rename_i h
  · rw [if_neg (by simpa using h)]; simp [eqWord_same]
  · rw [if_pos (by simpa using h)]; simp [eqWord_same]

end Go.Proofs.Ytoiffjimmjehnaa.Pure
