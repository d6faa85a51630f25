/- What the functions of package num answer: sums, products, quotients of whole numbers of any size, or out of range. -/
import Derived.Test.YtfpclhkieccojaaQjafjcfinoc
import Derived.Test.YtfpclhkieccojaaQeafcmfchom
import Derived.Test.YtfpclhkieccojaaQgnpffaanid
import Derived.Test.YtfpclhkieccojaaQbhlffekofa
import Derived.Test.YtfpclhkieccojaaQkbhclkdcne
import Derived.Test.YtfpclhkieccojaaQeiennjhgho
import Derived.Test.YtfpclhkieccojaaQdjgjmnlnnf
import Derived.Test.YtfpclhkieccojaaQpphkjkoine
import Derived.Test.YtfpclhkieccojaaQfoemnbkehb
import Derived.Test.YtfpclhkieccojaaQjdhaoogbfm
namespace Go.Proofs.Ytfpclhkieccojaa.Civ
set_option linter.unusedVariables false
set_option linter.unusedSimpArgs false
open Go.RowKit Go.Proofs.YtfpclhkieccojaaW.PrintWords Go.Proofs.YtfpclhkieccojaaW.PrintLast Go.Proofs.YtfpclhkieccojaaW.PrintMore Go.Proofs.Ytfpclhkieccojaa.P
instance (x : Int) : Decidable (I64 x) := inferInstanceAs (Decidable (_ ∧ _))
/-- A number, if it is one of 64 bits; else out of range. -/
def out (z : Int) : Int × Int := if I64 z then (z, 0) else (0, 10)
theorem out_in {z : Int} (h : I64 z) : out z = (z, 0) := if_pos h
theorem out_no {z : Int} (h : ¬ I64 z) : out z = (0, 10) := if_neg h
theorem add_eq (a b : Int) (ha : I64 a) (hb : I64 b) : num_Add.f a b = some (out (a + b)) := by
  unfold num_Add.f out
  by_cases h : I64 (a + b)
  · rw [if_pos h, w64_of h, if_neg]
    simp only [bne_iff_ne, ne_eq, Decidable.not_not]
    apply decide_eq_decide.2; omega
  · rw [if_neg h, if_pos]
    unfold I64 at *
    have hw : wrap64 (a + b) = a + b - 18446744073709551616 ∨ wrap64 (a + b) = a + b + 18446744073709551616 := by unfold wrap64; omega
    simp only [bne_iff_ne, ne_eq, decide_eq_decide]
    unfold wrap64 at *
    omega
theorem sub_eq (a b : Int) (ha : I64 a) (hb : I64 b) : num_Sub.f a b = some (out (a - b)) := by
  unfold num_Sub.f out
  by_cases h : I64 (a - b)
  · rw [if_pos h, w64_of h, if_neg]
    simp only [bne_iff_ne, ne_eq, Decidable.not_not]
    apply decide_eq_decide.2; omega
  · rw [if_neg h, if_pos]
    unfold I64 at *
    simp only [bne_iff_ne, ne_eq, decide_eq_decide]
    unfold wrap64 at *
    omega
theorem neg_eq (a : Int) (ha : I64 a) : num_Neg.f a = some (out (-a)) := by
  unfold num_Neg.f
  rw [sub_eq 0 a (by unfold I64; omega) ha]
  simp only [Option.bind_some, Int.zero_sub]
def md (a b : Int) : Int := if b < 0 then -((-a) % (-b)) else a % b
end Go.Proofs.Ytfpclhkieccojaa.Civ
