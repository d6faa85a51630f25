/- Comparing, and the first that is not 0. -/
import Derived.Test.YtfpclhkieccojaaQjibfjjnoko
import Derived.Test.YtfpclhkieccojaaQfemcomiepb
import Derived.Test.YtfpclhkieccojaaQeafcmfchom
import Derived.Test.YtfpclhkieccojaaQgnpffaanid
import Derived.Test.YtfpclhkieccojaaQjdhaoogbfm
import Derived.Test.YtfpclhkieccojaaQbipkeaklbp
namespace Go.Proofs.Ytfpclhkieccojaa.Civ
set_option linter.unusedVariables false
set_option linter.unusedSimpArgs false
open Go.RowKit Go.Proofs.YtfpclhkieccojaaW.PrintWords Go.Proofs.YtfpclhkieccojaaW.PrintLast Go.Proofs.YtfpclhkieccojaaW.PrintMore Go.Proofs.Ytfpclhkieccojaa.P
theorem cmp64_eq (a b : Int) : cmp_Compare_int64.f a b = some (sgn a b) := by
  unfold cmp_Compare_int64.f cmp_isNaN_int64.f sgn
  simp only [Option.bind_some, bne_self_eq_false, Bool.false_eq_true, if_false]
  by_cases h : a < b
  · rw [if_pos h, if_pos h]
  · rw [if_neg h, if_neg h]
    by_cases g : a > b
    · rw [if_pos g, if_pos g]
    · rw [if_neg g, if_neg (show ¬ b < a from g)]
end Go.Proofs.Ytfpclhkieccojaa.Civ
