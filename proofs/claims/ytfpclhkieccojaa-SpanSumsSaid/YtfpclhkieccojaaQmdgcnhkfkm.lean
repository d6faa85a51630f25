/- The reference's sum and product. -/
import Derived.Test.YtfpclhkieccojaaQjafjcfinoc
import Derived.Test.YtfpclhkieccojaaQaljbmmdblf
import Derived.Test.YtfpclhkieccojaaQepllhimjcm
import Derived.Test.YtfpclhkieccojaaQaohoffhmac
import Derived.Test.YtfpclhkieccojaaQeafcmfchom
import Derived.Test.YtfpclhkieccojaaQhndhnmlajo
import Derived.Test.YtfpclhkieccojaaQfibmdljcim
import Derived.Test.YtfpclhkieccojaaQlfeibmgldf
import Derived.Test.YtfpclhkieccojaaQeolblajafl
import Derived.Test.YtfpclhkieccojaaQlnddbfljjo
import Derived.Test.YtfpclhkieccojaaQbmpnkpikpc
import Derived.Test.YtfpclhkieccojaaQcakdidmjeb
import Derived.Test.YtfpclhkieccojaaQgnpffaanid
import Derived.Test.YtfpclhkieccojaaQjdhaoogbfm
import Derived.Test.YtfpclhkieccojaaQbhlffekofa
import Derived.Test.YtfpclhkieccojaaQkhofcnecdk
import Derived.Test.YtfpclhkieccojaaQjmldliflnn
namespace Go.Proofs.Ytfpclhkieccojaa.Civ
set_option linter.unusedVariables false
set_option linter.unusedSimpArgs false
open Go.RowKit Go.Proofs.YtfpclhkieccojaaW.PrintWords Go.Proofs.YtfpclhkieccojaaW.PrintLast Go.Proofs.YtfpclhkieccojaaW.PrintMore Go.Proofs.Ytfpclhkieccojaa.P
theorem wide_add {a b : Int} (ha : I64 a) (hb : I64 b) : Wide (a + b) := by unfold I64 at *; unfold Wide; omega
theorem radd_ev (a b : Int) (ha : I64 a) (hb : I64 b) : Ev (fun k => computusref01_Add.f k a b) (out (a + b)) := by
  unfold computusref01_Add.f
  rw [of_eq a ha, of_eq b hb]
  refine Ev.bind0 rfl (Ev.bind0 rfl (Ev.bind (plus_ev (wide_i64 ha) (wide_i64 hb) (wide_add ha hb)) (Ev.bind (small_ev (wide_add ha hb)) (Ev.now _))))
end Go.Proofs.Ytfpclhkieccojaa.Civ
