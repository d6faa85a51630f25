/- CivilDays: any date's day, and any day's date, are what the reference says; for every input of 64-bit numbers. -/
import Derived.Test.YtjdoafjpdnfmdaaBase
import Derived.Test.YtjdoafjpdnfmdaaCivMath
import Derived.Test.YtjdoafjpdnfmdaaCivFns
import Derived.Test.YtjdoafjpdnfmdaaCivRef
import Derived.Test.YtjdoafjpdnfmdaaCivKnown
import Derived.Test.YtjdoafjpdnfmdaaPx0
import Derived.Test.YtjdoafjpdnfmdaaPx5
namespace Go.Proofs.Ytjdoafjpdnfmdaa.Pure
set_option linter.unusedVariables false
set_option linter.unusedSimpArgs false
open Go.RowKit Go.Proofs.Ytjdoafjpdnfmdaa.P Go.Proofs.YtjdoafjpdnfmdaaW.PrintWords Go.Proofs.YtjdoafjpdnfmdaaW.PrintLast Go.Proofs.Ytjdoafjpdnfmdaa.Civ
theorem CivilDays : computuslaw02_CivilDays.Pure := by
  intro y m d n _ _ _ _
  refine Ev.rounds ?_
  unfold computuslaw02_CivilDays.f
  rw [days_eq]
  simp only [Option.bind_some]
  refine Ev.bind (rdays_ev y m d) ?_
  obtain ⟨a, b, c, h⟩ := date_of n
  by_cases hc : CanDay n
  · rw [date_eq h hc]
    simp only [Option.bind_some]
    refine Ev.bind (rdate_ev h hc) ?_
    simp only [if_true]
    exact known_end
  · rw [date_no hc]
    simp only [Option.bind_some]
    refine Ev.bind (rdate_no hc) ?_
    simp only [if_true]
    exact known_end
end Go.Proofs.Ytjdoafjpdnfmdaa.Pure
