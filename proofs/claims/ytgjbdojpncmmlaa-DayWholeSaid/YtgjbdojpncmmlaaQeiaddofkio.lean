/- The reference's sum and product. -/
import Derived.Test.YtgjbdojpncmmlaaQkjbhenggpj
import Derived.Test.YtgjbdojpncmmlaaQbphhhpgenm
import Derived.Test.YtgjbdojpncmmlaaQeblellkajb
import Derived.Test.YtgjbdojpncmmlaaQagjandoebo
import Derived.Test.YtgjbdojpncmmlaaQkegnhodiek
import Derived.Test.YtgjbdojpncmmlaaQdbmconcjmc
namespace Go.Proofs.Ytgjbdojpncmmlaa.Civ
set_option linter.unusedVariables false
set_option linter.unusedSimpArgs false
open Go.RowKit Go.Proofs.YtgjbdojpncmmlaaW.PrintWords Go.Proofs.YtgjbdojpncmmlaaW.PrintLast Go.Proofs.YtgjbdojpncmmlaaW.PrintMore Go.Proofs.Ytgjbdojpncmmlaa.P
def Half (x : Int) : Prop := -3138550867693340381917894711603833208051177722232017256448 ≤ x ∧ x ≤ 3138550867693340381917894711603833208051177722232017256448
theorem ab_half {x : Int} (h : Half x) : 0 ≤ ab x ∧ ab x ≤ 3138550867693340381917894711603833208051177722232017256448 := by unfold Half at h; unfold ab; split <;> omega
theorem half_i64 {x : Int} (h : I64 x) : Half x := by unfold I64 at h; unfold Half; omega
theorem half_wide {x : Int} (h : Half x) : Wide x := by unfold Half at h; unfold Wide; omega
theorem wide_neg {a : Int} (ha : Wide a) : Wide (-a) := by unfold Wide at *; omega
theorem i64_word {a : Int} (ha : I64 a) : -18446744073709551615 ≤ a ∧ a ≤ 18446744073709551615 := by unfold I64 at ha; omega
end Go.Proofs.Ytgjbdojpncmmlaa.Civ
