/- What the functions of the reference of package civil answer, told of dates' days. -/
import Derived.Test.YtlpnbbonbclddaaQlpbppeiplm
import Derived.Test.YtlpnbbonbclddaaQcecoeghmma
import Derived.Test.YtlpnbbonbclddaaQhcadmanmfm
import Derived.Test.YtlpnbbonbclddaaQjdcnbjmghn
import Derived.Test.YtlpnbbonbclddaaQncocjfpffk
import Derived.Test.YtlpnbbonbclddaaQbbmlejlogb
namespace Go.Proofs.Ytlpnbbonbclddaa.Civ
set_option linter.unusedVariables false
set_option linter.unusedSimpArgs false
open Go.RowKit Go.Proofs.YtlpnbbonbclddaaW.PrintWords Go.Proofs.YtlpnbbonbclddaaW.PrintLast Go.Proofs.YtlpnbbonbclddaaW.PrintMore Go.Proofs.Ytlpnbbonbclddaa.P
theorem rmod_eq (a b : Int) (hb : 0 < b) (hb2 : b ≤ 4611686018427387904) : computusref02_mod.f a b = some (a % b) := by
  have c := cut_floor a (b := b) (by omega)
  have h1 := Int.emod_nonneg a (b := b) (by omega)
  have h2 := Int.emod_lt_of_pos a (b := b) (by omega)
  unfold computusref02_mod.f
  rw [if_neg (by omega)]
  by_cases h : Int.tmod a b < 0
  · obtain ⟨c1, c2, _⟩ := c.1 h
    rw [if_pos h, c2, w64 (by omega) (by omega)]
    congr 1; omega
  · obtain ⟨c1, c2⟩ := c.2 h
    rw [if_neg h, c2]
theorem rleap_eq (y : Int) : computusref02_Leap.f y = some (decide (lp y = 1)) := by
  unfold computusref02_Leap.f
  rw [rmod_eq _ _ (by omega) (by omega), rmod_eq _ _ (by omega) (by omega), rmod_eq _ _ (by omega) (by omega)]
  simp only [Option.bind_some]
  have e : (y % 400 == 0) = decide (y % 400 = 0) := rfl
  rw [e]
  unfold lp
  by_cases h1 : y % 4 = 0
  · rw [if_pos h1]
    by_cases h2 : y % 100 = 0
    · rw [if_pos h2]
      by_cases h3 : y % 400 = 0 <;> simp [h1, h2, h3]
    · rw [if_neg h2]; simp [h1, h2]
  · rw [if_neg h1]; simp [h1]
end Go.Proofs.Ytlpnbbonbclddaa.Civ
