/- The program's Bare and the reference's give the same word at all words; no conditions. -/
import Derived.Test.YtoiffjimmjehnaaPFnExactBarex1
namespace Go.Proofs.Ytoiffjimmjehnaa.Pure
open Go.RowKit Go.Proofs.Ytoiffjimmjehnaa.PFnExactBare Go.Proofs.YtoiffjimmjehnaaW.PrintWords Go.Proofs.YtoiffjimmjehnaaW.PrintLast Go.Proofs.YtoiffjimmjehnaaW.PrintMore
set_option linter.unusedVariables false
set_option linter.unusedSimpArgs false

def laws_FnExactBare.Pure : Prop := ∀ (a0_0 : Int) (a0_1 : Bool) (a0_2 : Int) (a0_3 : Int) (a0_4 : Int) (a0_5 : Int), (Lit.int .i64 a0_0).wf = true → (Lit.int .i64 a0_2).wf = true → (Lit.int .i64 a0_3).wf = true → (Lit.int .i64 a0_4).wf = true → (Lit.int .i64 a0_5).wf = true → laws_FnExactBare.f a0_0 a0_1 a0_2 a0_3 a0_4 a0_5 = some true

theorem eqKey_same (a b c d : Int) : laws_eqKey.f a b c d a b c d = some true := by unfold laws_eqKey.f; simp

theorem eqWord_same (n : Int) (i : Bool) (a b c d : Int) : laws_eqWord.f n i a b c d n i a b c d = some true := by
  unfold laws_eqWord.f; simp [eqKey_same]

theorem toKey_eq (a b c d : Int) : laws_toKey.f a b c d = some (a, b, c, d) := rfl
theorem toWord_eq (n : Int) (i : Bool) (a b c d : Int) : laws_toWord.f n i a b c d = some (n, i, a, b, c, d) := rfl

theorem FnExactBare : laws_FnExactBare.Pure := by
  unfold laws_FnExactBare.Pure
  intros
  unfold laws_FnExactBare.f
  simp [toWord_eq, spec_Bare.f, impl_Bare.f, spec_Plain.f, impl_Plain.f, eqWord_same]

end Go.Proofs.Ytoiffjimmjehnaa.Pure
