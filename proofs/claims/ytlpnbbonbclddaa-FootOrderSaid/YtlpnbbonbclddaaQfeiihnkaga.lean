/- How clocks stand at an instant, and when they are shifted next: the program's and the reference's answer, of any foot and instant. -/
import Derived.Test.YtlpnbbonbclddaaQfcglcoipma
import Derived.Test.YtlpnbbonbclddaaQehmooeggok
namespace Go.Proofs.Ytlpnbbonbclddaa.P
open Go Go.RowKit Go.Proofs.Ytlpnbbonbclddaa.Civ Go.Proofs.Ytlpnbbonbclddaa.Ft
set_option linter.unusedVariables false
set_option linter.unusedSimpArgs false
section
open A
def bdF (F : Ft) : Bool := decide (-9223372036854775808 ≤ F.a.m ∧ F.a.m ≤ 9223372036854775807 ∧ -9223372036854775808 ≤ F.b.m ∧ F.b.m ≤ 9223372036854775807)
end
end Go.Proofs.Ytlpnbbonbclddaa.P
