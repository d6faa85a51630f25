/- CivilWeeks: any day's weekday, day of the year and week are what the reference says; for every input of 64-bit numbers. -/
import Derived.Test.YtjdoafjpdnfmdaaBase
import Derived.Test.YtjdoafjpdnfmdaaCivMath
import Derived.Test.YtjdoafjpdnfmdaaCivFns
import Derived.Test.YtjdoafjpdnfmdaaCivRef
import Derived.Test.YtjdoafjpdnfmdaaCivKnown
import Derived.Test.YtjdoafjpdnfmdaaPx0
import Derived.Test.YtjdoafjpdnfmdaaPx6
namespace Go.Proofs.Ytjdoafjpdnfmdaa.Pure
set_option linter.unusedVariables false
set_option linter.unusedSimpArgs false
open Go.RowKit Go.Proofs.Ytjdoafjpdnfmdaa.P Go.Proofs.YtjdoafjpdnfmdaaW.PrintWords Go.Proofs.YtjdoafjpdnfmdaaW.PrintLast Go.Proofs.Ytjdoafjpdnfmdaa.Civ
theorem CivilWeeks : computuslaw02_CivilWeeks.Pure := by
  intro n hn
  refine Ev.rounds ?_
  unfold computuslaw02_CivilWeeks.f
  rw [weekday_eq _ (i64_of_wf hn), rweekday_eq]
  obtain ⟨a, b, c, h⟩ := date_of n
  obtain ⟨a', b', c', h'⟩ := date_of (thurs n)
  by_cases hc : CanDay n
  · rw [yearday_eq h hc, week_eq h' hc]
    simp only [Option.bind_some]
    refine Ev.bind (ryearday_ev h hc) ?_
    refine Ev.bind (rweek_ev h' hc) ?_
    simp only [if_true]
    exact known_end
  · rw [yearday_no hc, week_no hc]
    simp only [Option.bind_some]
    refine Ev.bind (ryearday_no hc) ?_
    refine Ev.bind (rweek_no hc) ?_
    simp only [if_true]
    exact known_end
end Go.Proofs.Ytjdoafjpdnfmdaa.Pure
