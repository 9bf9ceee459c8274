/- The program's StateNew and the reference's give the same state, each time anew; no conditions. -/
import Derived.Test.YtlblngbhffpfoaaPFnExactStateNewx9
namespace Go.Proofs.Ytlblngbhffpfoaa.Pure
open Go.RowKit Go.Proofs.Ytlblngbhffpfoaa.PFnExactStateNew Go.Proofs.YtlblngbhffpfoaaW.PrintWords Go.Proofs.YtlblngbhffpfoaaW.PrintLast Go.Proofs.YtlblngbhffpfoaaW.PrintMore
set_option linter.unusedVariables false
set_option linter.unusedSimpArgs false

theorem FnExactStateNew : laws_FnExactStateNew.Pure := ⟨40, by decide +kernel⟩

end Go.Proofs.Ytlblngbhffpfoaa.Pure
