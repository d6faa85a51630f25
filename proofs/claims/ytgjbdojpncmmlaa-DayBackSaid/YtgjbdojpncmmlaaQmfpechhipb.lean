/- What the reference's wide numbers come to: six parts of 32 bits each, told of the whole number that they stand for. -/
import Derived.Test.YtgjbdojpncmmlaaQfbncjpmakp
import Derived.Test.YtgjbdojpncmmlaaQeccfklbhpc
namespace Go.Proofs.Ytgjbdojpncmmlaa.Civ
set_option linter.unusedVariables false
set_option linter.unusedSimpArgs false
open Go.RowKit Go.Proofs.YtgjbdojpncmmlaaW.PrintWords Go.Proofs.YtgjbdojpncmmlaaW.PrintLast Go.Proofs.YtgjbdojpncmmlaaW.PrintMore Go.Proofs.Ytgjbdojpncmmlaa.P
def sgn (a b : Int) : Int := if a < b then -1 else if b < a then 1 else 0
theorem sgn_lt {a b : Int} (h : a < b) : sgn a b = -1 := if_pos h
theorem sgn_gt {a b : Int} (h : b < a) : sgn a b = 1 := by unfold sgn; rw [if_neg (by omega), if_pos h]
theorem sgn_eq {a b : Int} (h : a = b) : sgn a b = 0 := by unfold sgn; rw [if_neg (by omega), if_neg (by omega)]
end Go.Proofs.Ytgjbdojpncmmlaa.Civ
