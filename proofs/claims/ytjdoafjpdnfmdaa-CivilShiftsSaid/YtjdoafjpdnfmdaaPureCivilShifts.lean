/- CivilShifts: any day, so many months on or back, is what the reference says; for every input of 64-bit numbers. -/
import Derived.Test.YtjdoafjpdnfmdaaBase
import Derived.Test.YtjdoafjpdnfmdaaCivMath
import Derived.Test.YtjdoafjpdnfmdaaCivFns
import Derived.Test.YtjdoafjpdnfmdaaCivRef
import Derived.Test.YtjdoafjpdnfmdaaCivKnown
import Derived.Test.YtjdoafjpdnfmdaaPx0
import Derived.Test.YtjdoafjpdnfmdaaPx5
namespace Go.Proofs.Ytjdoafjpdnfmdaa.Pure
set_option linter.unusedVariables false
set_option linter.unusedSimpArgs false
open Go.RowKit Go.Proofs.Ytjdoafjpdnfmdaa.P Go.Proofs.YtjdoafjpdnfmdaaW.PrintWords Go.Proofs.YtjdoafjpdnfmdaaW.PrintLast Go.Proofs.Ytjdoafjpdnfmdaa.Civ
theorem CivilShifts : computuslaw02_CivilShifts.Pure := by
  intro n q _ _
  refine Ev.rounds ?_
  unfold computuslaw02_CivilShifts.f
  obtain ⟨a, b, c, h⟩ := date_of n
  by_cases hc : CanDay n ∧ MonthsOk q
  · refine Ev.bind (Ev.at1 fun k => shift_eq h hc.1 hc.2 k) ?_
    refine Ev.bind (rshift_ev h hc.1 hc.2) ?_
    simp only [if_true]
    exact known_end
  · have hn : ¬ CanDay n ∨ ¬ MonthsOk q := by
      by_cases g : CanDay n
      · exact .inr fun f => hc ⟨g, f⟩
      · exact .inl g
    refine Ev.bind (Ev.at1 fun k => shift_no hn k) ?_
    refine Ev.bind (rshift_no hn) ?_
    simp only [if_true]
    exact known_end
end Go.Proofs.Ytjdoafjpdnfmdaa.Pure
