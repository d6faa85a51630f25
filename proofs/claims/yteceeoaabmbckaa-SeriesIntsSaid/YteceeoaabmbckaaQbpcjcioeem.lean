/- The reference's sum and product. -/
import Derived.Test.YteceeoaabmbckaaQgbpkefpolb
import Derived.Test.YteceeoaabmbckaaQdboclfmcoc
import Derived.Test.YteceeoaabmbckaaQlnmfplnpif
import Derived.Test.YteceeoaabmbckaaQgpippedcej
import Derived.Test.YteceeoaabmbckaaQnfimnniaco
import Derived.Test.YteceeoaabmbckaaQaepgdpkedj
namespace Go.Proofs.Yteceeoaabmbckaa.Civ
set_option linter.unusedVariables false
set_option linter.unusedSimpArgs false
open Go.RowKit Go.Proofs.YteceeoaabmbckaaW.PrintWords Go.Proofs.YteceeoaabmbckaaW.PrintLast Go.Proofs.YteceeoaabmbckaaW.PrintMore Go.Proofs.Yteceeoaabmbckaa.P
def Half (x : Int) : Prop := -3138550867693340381917894711603833208051177722232017256448 ≤ x ∧ x ≤ 3138550867693340381917894711603833208051177722232017256448
theorem ab_half {x : Int} (h : Half x) : 0 ≤ ab x ∧ ab x ≤ 3138550867693340381917894711603833208051177722232017256448 := by unfold Half at h; unfold ab; split <;> omega
theorem wide_add {a b : Int} (ha : I64 a) (hb : I64 b) : Wide (a + b) := by unfold I64 at *; unfold Wide; omega
theorem radd_ev (a b : Int) (ha : I64 a) (hb : I64 b) : Ev (fun k => computusref01_Add.f k a b) (out (a + b)) := by
  unfold computusref01_Add.f
  rw [of_eq a ha, of_eq b hb]
  refine Ev.bind0 rfl (Ev.bind0 rfl (Ev.bind (plus_ev (wide_i64 ha) (wide_i64 hb) (wide_add ha hb)) (Ev.bind (small_ev (wide_add ha hb)) (Ev.now _))))
end Go.Proofs.Yteceeoaabmbckaa.Civ
