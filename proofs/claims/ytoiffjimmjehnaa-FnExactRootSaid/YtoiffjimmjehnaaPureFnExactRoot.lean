/- The program's Root and the reference's give the same key; no conditions. -/
import Derived.Test.YtoiffjimmjehnaaPFnExactRootx1
namespace Go.Proofs.Ytoiffjimmjehnaa.Pure
open Go.RowKit Go.Proofs.Ytoiffjimmjehnaa.PFnExactRoot Go.Proofs.YtoiffjimmjehnaaW.PrintWords Go.Proofs.YtoiffjimmjehnaaW.PrintLast Go.Proofs.YtoiffjimmjehnaaW.PrintMore
set_option linter.unusedVariables false
set_option linter.unusedSimpArgs false

theorem FnExactRoot : laws_FnExactRoot.Pure := by
  unfold laws_FnExactRoot.Pure laws_FnExactRoot.f spec_Root.f impl_Root.f laws_eqKey.f
  simp

end Go.Proofs.Ytoiffjimmjehnaa.Pure
