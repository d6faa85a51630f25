/- CivilYears: of any year and month whether it is a leap year, how many days it has, whether any date can be, and the first and last day, is what the reference says; for every input of 64-bit numbers. -/
import Derived.Test.YtjdoafjpdnfmdaaBase
import Derived.Test.YtjdoafjpdnfmdaaCivMath
import Derived.Test.YtjdoafjpdnfmdaaCivFns
import Derived.Test.YtjdoafjpdnfmdaaCivRef
import Derived.Test.YtjdoafjpdnfmdaaCivKnown
import Derived.Test.YtjdoafjpdnfmdaaPx0
import Derived.Test.YtjdoafjpdnfmdaaPx4
namespace Go.Proofs.Ytjdoafjpdnfmdaa.Pure
set_option linter.unusedVariables false
set_option linter.unusedSimpArgs false
open Go.RowKit Go.Proofs.Ytjdoafjpdnfmdaa.P Go.Proofs.YtjdoafjpdnfmdaaW.PrintWords Go.Proofs.YtjdoafjpdnfmdaaW.PrintLast Go.Proofs.Ytjdoafjpdnfmdaa.Civ
theorem CivilYears : computuslaw02_CivilYears.Pure := by
  intro y m d _ _ _
  refine Ev.rounds ?_
  unfold computuslaw02_CivilYears.f
  rw [leap_eq, rleap_eq, len_eq, right_eq, firstday_eq, lastday_eq]
  simp only [Option.bind_some, beq_self_eq_true, if_true]
  refine Ev.bind (rlen_ev y m) ?_
  simp only [if_true]
  refine Ev.bind (rright_ev y m d) ?_
  simp only [beq_self_eq_true, if_true]
  refine Ev.bind rfirst_ev ?_
  simp only [if_true]
  refine Ev.bind rlast_ev ?_
  simp only [if_true]
  exact Ev.bind known_ev (Ev.now _)
end Go.Proofs.Ytjdoafjpdnfmdaa.Pure
