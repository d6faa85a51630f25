/- Comparing, and the first that is not 0. -/
import Derived.Test.YtgjbdojpncmmlaaQkjbhenggpj
import Derived.Test.YtgjbdojpncmmlaaQbphhhpgenm
import Derived.Test.YtgjbdojpncmmlaaQkegnhodiek
import Derived.Test.YtgjbdojpncmmlaaQdlnlpokolc
import Derived.Test.YtgjbdojpncmmlaaQbehfokmopb
namespace Go.Proofs.Ytgjbdojpncmmlaa.Civ
set_option linter.unusedVariables false
set_option linter.unusedSimpArgs false
open Go.RowKit Go.Proofs.YtgjbdojpncmmlaaW.PrintWords Go.Proofs.YtgjbdojpncmmlaaW.PrintLast Go.Proofs.YtgjbdojpncmmlaaW.PrintMore Go.Proofs.Ytgjbdojpncmmlaa.P
theorem cmp64_eq (a b : Int) : cmp_Compare_int64.f a b = some (sgn a b) := by
  unfold cmp_Compare_int64.f cmp_isNaN_int64.f sgn
  simp only [Option.bind_some, bne_self_eq_false, Bool.false_eq_true, if_false]
  by_cases h : a < b
  · rw [if_pos h, if_pos h]
  · rw [if_neg h, if_neg h]
    by_cases g : a > b
    · rw [if_pos g, if_pos g]
    · rw [if_neg g, if_neg (show ¬ b < a from g)]
theorem cmpi_eq (a b : Int) : cmp_Compare_int.f a b = some (sgn a b) := by
  unfold cmp_Compare_int.f cmp_isNaN_int.f sgn
  simp only [Option.bind_some, bne_self_eq_false, Bool.false_eq_true, if_false]
  by_cases h : a < b
  · rw [if_pos h, if_pos h]
  · rw [if_neg h, if_neg h]
    by_cases g : a > b
    · rw [if_pos g, if_pos g]
    · rw [if_neg g, if_neg (show ¬ b < a from g)]
theorem or_ev (a b : Int) : Ev (fun k => cmp_Or_int.f k [a, b]) (if a = 0 then b else a) := by
  refine Ev.of (cmp_Or_int.mono [a, b]) (k := 3) ?_
  have e0 : rd [a, b] 0 = a := rfl
  have e1 : rd [a, b] 1 = b := rfl
  have w1 : wrap64 1 = 1 := w64 (by omega) (by omega)
  have w2 : wrap64 2 = 2 := w64 (by omega) (by omega)
  unfold cmp_Or_int.f
  by_cases h : a = 0
  · subst h
    by_cases g : b = 0
    · subst g
      simp [cmp_Or_int.l0, e0, e1, w1, w2]
    · simp [cmp_Or_int.l0, e0, e1, w1, w2, g]
  · simp [cmp_Or_int.l0, e0, h]
end Go.Proofs.Ytgjbdojpncmmlaa.Civ
