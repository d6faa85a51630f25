/- The fixed calls come out as the statement wants. -/
import Derived.Test.YtjdoafjpdnfmdaaBase
import Derived.Test.YtjdoafjpdnfmdaaPx0
import Derived.Test.YtjdoafjpdnfmdaaPx3
namespace Go.Proofs.Ytjdoafjpdnfmdaa.Civ
set_option linter.unusedVariables false
set_option linter.unusedSimpArgs false
open Go.RowKit Go.Proofs.Ytjdoafjpdnfmdaa.P Go.Proofs.YtjdoafjpdnfmdaaW.PrintWords Go.Proofs.YtjdoafjpdnfmdaaW.PrintLast
theorem known_ev : Ev (fun k => computuslaw02_known.f k) true := Ev.of computuslaw02_known.mono (k := 3) (by decide +kernel)
theorem known_end : Ev (fun k => (computuslaw02_known.f k).bind fun t => some t) true := Ev.bind known_ev (Ev.now _)
end Go.Proofs.Ytjdoafjpdnfmdaa.Civ
