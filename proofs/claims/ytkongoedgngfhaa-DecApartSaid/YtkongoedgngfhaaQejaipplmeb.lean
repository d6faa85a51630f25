/- The fixed calls come out as the statement wants. -/
import Derived.Test.YtkongoedgngfhaaQfibieogecn
import Derived.Test.YtkongoedgngfhaaQgkkgmomhkk
import Derived.Test.YtkongoedgngfhaaQakplnfhdmn
namespace Go.Proofs.Ytkongoedgngfhaa.Civ
set_option linter.unusedVariables false
set_option linter.unusedSimpArgs false
open Go.RowKit Go.Proofs.Ytkongoedgngfhaa.P Go.Proofs.YtkongoedgngfhaaW.PrintWords Go.Proofs.YtkongoedgngfhaaW.PrintLast
theorem known_ev : Ev (fun k => computuslaw04_known.f k) true := Ev.of computuslaw04_known.mono (k := 12) (by decide +kernel)
theorem known_end : Ev (fun k => (computuslaw04_known.f k).bind fun t => some t) true := Ev.bind known_ev (Ev.now _)
end Go.Proofs.Ytkongoedgngfhaa.Civ
