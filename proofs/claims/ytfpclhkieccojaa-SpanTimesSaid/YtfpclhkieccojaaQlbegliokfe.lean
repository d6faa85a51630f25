/- The reference's sum and product. -/
import Derived.Test.YtfpclhkieccojaaQefgefhhcgk
import Derived.Test.YtfpclhkieccojaaQbifnoddcog
import Derived.Test.YtfpclhkieccojaaQnedkgdlepl
import Derived.Test.YtfpclhkieccojaaQcjfhoclfkb
import Derived.Test.YtfpclhkieccojaaQeafcmfchom
import Derived.Test.YtfpclhkieccojaaQlpfdoeheom
import Derived.Test.YtfpclhkieccojaaQeolblajafl
import Derived.Test.YtfpclhkieccojaaQmpigfecdpa
import Derived.Test.YtfpclhkieccojaaQoimnmpglbn
import Derived.Test.YtfpclhkieccojaaQkhofcnecdk
namespace Go.Proofs.Ytfpclhkieccojaa.Civ
set_option linter.unusedVariables false
set_option linter.unusedSimpArgs false
open Go.RowKit Go.Proofs.YtfpclhkieccojaaW.PrintWords Go.Proofs.YtfpclhkieccojaaW.PrintLast Go.Proofs.YtfpclhkieccojaaW.PrintMore Go.Proofs.Ytfpclhkieccojaa.P
def Half (x : Int) : Prop := -3138550867693340381917894711603833208051177722232017256448 ≤ x ∧ x ≤ 3138550867693340381917894711603833208051177722232017256448
theorem half_wide {x : Int} (h : Half x) : Wide x := by unfold Half at h; unfold Wide; omega
theorem i64_word {a : Int} (ha : I64 a) : -18446744073709551615 ≤ a ∧ a ≤ 18446744073709551615 := by unfold I64 at ha; omega
theorem half_mul {a b : Int} (ha : I64 a) (hb : I64 b) : Half (a * b) := by
  have h1 := ab_bd ha
  have h2 := ab_bd hb
  have h3 := mul_bd h1.1 h1.2 h2.1 h2.2
  rw [← mul_sign a b]
  unfold Half
  split <;> omega
theorem rmul_ev (a b : Int) (ha : I64 a) (hb : I64 b) : Ev (fun k => computusref01_Mul.f k a b) (out (a * b)) := by
  unfold computusref01_Mul.f
  rw [of_eq a ha, of_eq b hb]
  exact Ev.bind0 rfl (Ev.bind0 rfl (Ev.bind (times_ev (i64_word ha) (i64_word hb)) (Ev.bind (small_ev (half_wide (half_mul ha hb))) (Ev.now _))))
end Go.Proofs.Ytfpclhkieccojaa.Civ
