/- The fixed calls come out as the statement wants. -/
import Derived.Test.YtfpclhkieccojaaQjibfjjnoko
import Derived.Test.YtfpclhkieccojaaQeafcmfchom
import Derived.Test.YtfpclhkieccojaaQcjdphadijg
namespace Go.Proofs.Ytfpclhkieccojaa.Civ
set_option linter.unusedVariables false
set_option linter.unusedSimpArgs false
open Go.RowKit Go.Proofs.Ytfpclhkieccojaa.P Go.Proofs.YtfpclhkieccojaaW.PrintWords Go.Proofs.YtfpclhkieccojaaW.PrintLast
theorem known_ev : Ev (fun k => computuslaw16_known.f k) true := Ev.of computuslaw16_known.mono (k := 12) (by decide +kernel)
theorem known_end : Ev (fun k => (computuslaw16_known.f k).bind fun t => some t) true := Ev.bind known_ev (Ev.now _)
end Go.Proofs.Ytfpclhkieccojaa.Civ
