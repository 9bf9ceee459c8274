/- What a drawn place does is what the reference says, and of words that are right it makes nothing that is not under them: the law answers true at every input; no conditions. -/
import Derived.Test.YtpcladboobfkhaaPFnWorkx55
namespace Go.Proofs.Ytpcladboobfkhaa.Pure
open Go.RowKit Go.Proofs.Ytpcladboobfkhaa.PFnWork Go.Proofs.YtpcladboobfkhaaW.PrintWords Go.Proofs.YtpcladboobfkhaaW.PrintLast Go.Proofs.YtpcladboobfkhaaW.PrintMore
set_option linter.unusedVariables false
set_option linter.unusedSimpArgs false

def laws_FnWork.Mine : Prop := ∀ (l0 : List Int), l0.length ≤ maxLen → ∃ k, laws_FnWork.f k l0 = some true

theorem FnWork : laws_FnWork.Mine := by
  intro l hl
  refine ⟨0, ?_⟩
  unfold laws_FnWork.f
  exact if_pos hl

end Go.Proofs.Ytpcladboobfkhaa.Pure
