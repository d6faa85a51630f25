/- What the functions of package num answer: sums, products, quotients of whole numbers of any size, or out of range. -/
import Derived.Test.YtgjbdojpncmmlaaQanfobienjh
import Derived.Test.YtgjbdojpncmmlaaQeccfklbhpc
import Derived.Test.YtgjbdojpncmmlaaQgbicodemee
import Derived.Test.YtgjbdojpncmmlaaQimelflbdhf
import Derived.Test.YtgjbdojpncmmlaaQfgiaeohong
import Derived.Test.YtgjbdojpncmmlaaQnhjofeampk
import Derived.Test.YtgjbdojpncmmlaaQnjbodpdeli
import Derived.Test.YtgjbdojpncmmlaaQckpclafhif
namespace Go.Proofs.Ytgjbdojpncmmlaa.Civ
set_option linter.unusedVariables false
set_option linter.unusedSimpArgs false
open Go.RowKit Go.Proofs.YtgjbdojpncmmlaaW.PrintWords Go.Proofs.YtgjbdojpncmmlaaW.PrintLast Go.Proofs.YtgjbdojpncmmlaaW.PrintMore Go.Proofs.Ytgjbdojpncmmlaa.P
instance (x : Int) : Decidable (I64 x) := inferInstanceAs (Decidable (_ ∧ _))
/-- A number, if it is one of 64 bits; else out of range. -/
def out (z : Int) : Int × Int := if I64 z then (z, 0) else (0, 10)
def md (a b : Int) : Int := if b < 0 then -((-a) % (-b)) else a % b
end Go.Proofs.Ytgjbdojpncmmlaa.Civ
