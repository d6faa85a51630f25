/- The fixed calls come out as the statement wants. -/
import Derived.Test.YtacdejgkedcikaaBase
import Derived.Test.YtacdejgkedcikaaPx0
import Derived.Test.YtacdejgkedcikaaPx15
namespace Go.Proofs.Ytacdejgkedcikaa.Civ
set_option linter.unusedVariables false
set_option linter.unusedSimpArgs false
open Go.RowKit Go.Proofs.Ytacdejgkedcikaa.P Go.Proofs.YtacdejgkedcikaaW.PrintWords Go.Proofs.YtacdejgkedcikaaW.PrintLast
theorem known_ev : Ev (fun k => computuslaw01_known.f k) true := Ev.of computuslaw01_known.mono (k := 12) (by decide +kernel)
theorem known_end : Ev (fun k => (computuslaw01_known.f k).bind fun t => some t) true := Ev.bind known_ev (Ev.now _)
end Go.Proofs.Ytacdejgkedcikaa.Civ
