/- The plain side of this seat's proofs: what the printed Lean functions answer, in numbers and lists alone. What is asked stands in each theorem. -/
import Derived.Test.YtdlcefclefbdjaaFx0
import Derived.Test.YtdlcefclefbdjaaFLawsFnExactFirstDesk
namespace Go.Proofs.Ytdlcefclefbdjaa.Pure
open Go.RowKit Go.Proofs.YtdlcefclefbdjaaW.PrintWords Go.Proofs.YtdlcefclefbdjaaW.PrintLast Go.Proofs.YtdlcefclefbdjaaW.PrintMore Go.Proofs.Ytdlcefclefbdjaa.P
set_option linter.unusedVariables false
set_option linter.unusedSimpArgs false
theorem FnExactFirstDesk : laws_FnExactFirstDesk.Pure := ⟨40, by kernel_rfl⟩
end Go.Proofs.Ytdlcefclefbdjaa.Pure
