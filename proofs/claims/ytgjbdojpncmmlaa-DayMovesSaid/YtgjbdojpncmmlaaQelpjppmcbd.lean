/- The reference's sum and product. -/
import Derived.Test.YtgjbdojpncmmlaaQckifepldkc
import Derived.Test.YtgjbdojpncmmlaaQjjeoeinjcb
import Derived.Test.YtgjbdojpncmmlaaQlldpbiopdl
import Derived.Test.YtgjbdojpncmmlaaQagajpmdjkf
import Derived.Test.YtgjbdojpncmmlaaQeccfklbhpc
import Derived.Test.YtgjbdojpncmmlaaQgmhmahhkaa
namespace Go.Proofs.Ytgjbdojpncmmlaa.Civ
set_option linter.unusedVariables false
set_option linter.unusedSimpArgs false
open Go.RowKit Go.Proofs.YtgjbdojpncmmlaaW.PrintWords Go.Proofs.YtgjbdojpncmmlaaW.PrintLast Go.Proofs.YtgjbdojpncmmlaaW.PrintMore Go.Proofs.Ytgjbdojpncmmlaa.P
theorem wide_add {a b : Int} (ha : I64 a) (hb : I64 b) : Wide (a + b) := by unfold I64 at *; unfold Wide; omega
theorem radd_ev (a b : Int) (ha : I64 a) (hb : I64 b) : Ev (fun k => computusref01_Add.f k a b) (out (a + b)) := by
  unfold computusref01_Add.f
  rw [of_eq a ha, of_eq b hb]
  refine Ev.bind0 rfl (Ev.bind0 rfl (Ev.bind (plus_ev (wide_i64 ha) (wide_i64 hb) (wide_add ha hb)) (Ev.bind (small_ev (wide_add ha hb)) (Ev.now _))))
end Go.Proofs.Ytgjbdojpncmmlaa.Civ
