/- What the reference's wide numbers come to: six parts of 32 bits each, told of the whole number that they stand for. -/
import Derived.Test.YtfpclhkieccojaaQjibfjjnoko
import Derived.Test.YtfpclhkieccojaaQeafcmfchom
namespace Go.Proofs.Ytfpclhkieccojaa.Civ
set_option linter.unusedVariables false
set_option linter.unusedSimpArgs false
open Go.RowKit Go.Proofs.YtfpclhkieccojaaW.PrintWords Go.Proofs.YtfpclhkieccojaaW.PrintLast Go.Proofs.YtfpclhkieccojaaW.PrintMore Go.Proofs.Ytfpclhkieccojaa.P
theorem u64m (x : Int) : IntKind.u64.wrap x = x % 18446744073709551616 := by simp [IntKind.wrap, IntKind.bits, IntKind.signed]
theorem u64w {x : Int} (h1 : 0 ≤ x) (h2 : x ≤ 18446744073709551615) : IntKind.u64.wrap x = x := by rw [u64m]; omega
theorem wraps_u64 (n : Int) (h₀ : 0 ≤ n) (h₁ : n < 2 ^ 64) : IntKind.u64.wrap n = n := by rw [u64m]; omega
theorem and32 {x : Int} (h1 : 0 ≤ x) (h2 : x ≤ 18446744073709551615) : Go.bits .and .u64 x 4294967295 = x % 4294967296 :=
  bits_mask .u64 64 (by decide) wraps_u64 32 (by decide) x h1 (by omega)
def sgn (a b : Int) : Int := if a < b then -1 else if b < a then 1 else 0
theorem sgn_lt {a b : Int} (h : a < b) : sgn a b = -1 := if_pos h
theorem sgn_gt {a b : Int} (h : b < a) : sgn a b = 1 := by unfold sgn; rw [if_neg (by omega), if_pos h]
end Go.Proofs.Ytfpclhkieccojaa.Civ
