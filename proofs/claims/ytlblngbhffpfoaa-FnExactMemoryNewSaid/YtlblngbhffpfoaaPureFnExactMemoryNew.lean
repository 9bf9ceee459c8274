/- The program's MemoryNew and the reference's give the same memory, each time anew; no conditions. -/
import Derived.Test.YtlblngbhffpfoaaPFnExactMemoryNewx3
namespace Go.Proofs.Ytlblngbhffpfoaa.Pure
open Go.RowKit Go.Proofs.Ytlblngbhffpfoaa.PFnExactMemoryNew Go.Proofs.YtlblngbhffpfoaaW.PrintWords Go.Proofs.YtlblngbhffpfoaaW.PrintLast Go.Proofs.YtlblngbhffpfoaaW.PrintMore
set_option linter.unusedVariables false
set_option linter.unusedSimpArgs false

theorem FnExactMemoryNew : laws_FnExactMemoryNew.Pure := ⟨30, by decide +kernel⟩

end Go.Proofs.Ytlblngbhffpfoaa.Pure
