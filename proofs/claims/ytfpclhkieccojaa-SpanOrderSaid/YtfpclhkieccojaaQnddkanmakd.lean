/- The reference's sum and product. -/
import Derived.Test.YtfpclhkieccojaaQcmladpdgda
import Derived.Test.YtfpclhkieccojaaQkaflgonjoo
import Derived.Test.YtfpclhkieccojaaQpnmbjhgope
import Derived.Test.YtfpclhkieccojaaQlgifahjbdg
import Derived.Test.YtfpclhkieccojaaQeafcmfchom
import Derived.Test.YtfpclhkieccojaaQhndhnmlajo
import Derived.Test.YtfpclhkieccojaaQfibmdljcim
import Derived.Test.YtfpclhkieccojaaQoimnmpglbn
import Derived.Test.YtfpclhkieccojaaQfbfdmbekpk
import Derived.Test.YtfpclhkieccojaaQmibefaoeia
import Derived.Test.YtfpclhkieccojaaQoojohhpmmk
import Derived.Test.YtfpclhkieccojaaQgnpffaanid
import Derived.Test.YtfpclhkieccojaaQjdhaoogbfm
import Derived.Test.YtfpclhkieccojaaQbhlffekofa
import Derived.Test.YtfpclhkieccojaaQehmbfliiap
namespace Go.Proofs.Ytfpclhkieccojaa.Civ
set_option linter.unusedVariables false
set_option linter.unusedSimpArgs false
open Go.RowKit Go.Proofs.YtfpclhkieccojaaW.PrintWords Go.Proofs.YtfpclhkieccojaaW.PrintLast Go.Proofs.YtfpclhkieccojaaW.PrintMore Go.Proofs.Ytfpclhkieccojaa.P
theorem wide_neg {a : Int} (ha : Wide a) : Wide (-a) := by unfold Wide at *; omega
end Go.Proofs.Ytfpclhkieccojaa.Civ
