/- The fixed calls come out as the statement wants. -/
import Derived.Test.YtgjbdojpncmmlaaQkjbhenggpj
import Derived.Test.YtgjbdojpncmmlaaQkegnhodiek
import Derived.Test.YtgjbdojpncmmlaaQkodeilnmdn
namespace Go.Proofs.Ytgjbdojpncmmlaa.Civ
set_option linter.unusedVariables false
set_option linter.unusedSimpArgs false
open Go.RowKit Go.Proofs.Ytgjbdojpncmmlaa.P Go.Proofs.YtgjbdojpncmmlaaW.PrintWords Go.Proofs.YtgjbdojpncmmlaaW.PrintLast
theorem known_ev : Ev (fun k => computuslaw15_known.f k) true := Ev.of computuslaw15_known.mono (k := 12) (by decide +kernel)
theorem known_end : Ev (fun k => (computuslaw15_known.f k).bind fun t => some t) true := Ev.bind known_ev (Ev.now _)
end Go.Proofs.Ytgjbdojpncmmlaa.Civ
