/- The program's Plain and the reference's give the same word at all arguments; no conditions. -/
import Derived.Test.YtoiffjimmjehnaaPFnExactPlainx1
namespace Go.Proofs.Ytoiffjimmjehnaa.Pure
open Go.RowKit Go.Proofs.Ytoiffjimmjehnaa.PFnExactPlain Go.Proofs.YtoiffjimmjehnaaW.PrintWords Go.Proofs.YtoiffjimmjehnaaW.PrintLast Go.Proofs.YtoiffjimmjehnaaW.PrintMore
set_option linter.unusedVariables false
set_option linter.unusedSimpArgs false

theorem eqKey_same (a b c d : Int) : laws_eqKey.f a b c d a b c d = some true := by unfold laws_eqKey.f; simp

theorem eqWord_same (n : Int) (i : Bool) (a b c d : Int) : laws_eqWord.f n i a b c d n i a b c d = some true := by
  unfold laws_eqWord.f; simp [eqKey_same]

theorem FnExactPlain : laws_FnExactPlain.Pure := by
  intro a _
  unfold laws_FnExactPlain.f spec_Plain.f impl_Plain.f
  simp [eqWord_same]

end Go.Proofs.Ytoiffjimmjehnaa.Pure
