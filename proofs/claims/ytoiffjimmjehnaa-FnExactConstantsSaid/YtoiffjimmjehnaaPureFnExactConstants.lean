/- Each named limit of the program is the number that the reference gives; no conditions. -/
import Derived.Test.YtoiffjimmjehnaaPFnExactConstantsx1
namespace Go.Proofs.Ytoiffjimmjehnaa.Pure
open Go.RowKit Go.Proofs.Ytoiffjimmjehnaa.PFnExactConstants Go.Proofs.YtoiffjimmjehnaaW.PrintWords Go.Proofs.YtoiffjimmjehnaaW.PrintLast Go.Proofs.YtoiffjimmjehnaaW.PrintMore
set_option linter.unusedVariables false
set_option linter.unusedSimpArgs false

theorem FnExactConstants : laws_FnExactConstants.Pure := rfl

end Go.Proofs.Ytoiffjimmjehnaa.Pure
