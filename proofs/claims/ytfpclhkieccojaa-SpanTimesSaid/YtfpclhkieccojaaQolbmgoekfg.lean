/- SpanTimes: an interval so many times, and one of any parts, as the reference says; for every input. -/
import Derived.Test.YtfpclhkieccojaaQefgefhhcgk
import Derived.Test.YtfpclhkieccojaaQbifnoddcog
import Derived.Test.YtfpclhkieccojaaQnedkgdlepl
import Derived.Test.YtfpclhkieccojaaQcjfhoclfkb
import Derived.Test.YtfpclhkieccojaaQlbegliokfe
import Derived.Test.YtfpclhkieccojaaQnnggfgelmp
import Derived.Test.YtfpclhkieccojaaQkgifnokclg
import Derived.Test.YtfpclhkieccojaaQeafcmfchom
import Derived.Test.YtfpclhkieccojaaQchjnooobfh
import Derived.Test.YtfpclhkieccojaaQmpnnhdfopl
import Derived.Test.YtfpclhkieccojaaQeolblajafl
import Derived.Test.YtfpclhkieccojaaQmpigfecdpa
import Derived.Test.YtfpclhkieccojaaQoimnmpglbn
import Derived.Test.YtfpclhkieccojaaQfbfdmbekpk
import Derived.Test.YtfpclhkieccojaaQfibmdljcim
import Derived.Test.YtfpclhkieccojaaQcmkhfbhjnm
import Derived.Test.YtfpclhkieccojaaQjdhaoogbfm
import Derived.Test.YtfpclhkieccojaaQaijmmoodjf
import Derived.Test.YtfpclhkieccojaaQfpfjbgjhmm
import Derived.Test.YtfpclhkieccojaaQlpfdoeheom
namespace Go.Proofs.Ytfpclhkieccojaa.Pure
set_option linter.unusedVariables false
set_option linter.unusedSimpArgs false
open Go.RowKit Go.Proofs.Ytfpclhkieccojaa.P Go.Proofs.YtfpclhkieccojaaW.PrintWords Go.Proofs.YtfpclhkieccojaaW.PrintLast Go.Proofs.Ytfpclhkieccojaa.Civ
theorem SpanTimes : computuslaw16_SpanTimes.Pure := by
  intro i m d u c a b _ _ _ hu hc _ _
  have hu := i64_of_wf hu
  have hc := i64_of_wf hc
  refine Ev.rounds ?_
  unfold computuslaw16_SpanTimes.f
  refine Ev.bind (mulS_ev i m d u c hu hc) ?_
  refine Ev.bind (rmulS_ev i m d u c hc) ?_
  refine Ev.bind0 (make_eq a b c hc) ?_
  refine Ev.bind0 (rmake_eq a b c) ?_
  simp only [beq_self_eq_true, Bool.and_self, if_true]
  exact known_end
end Go.Proofs.Ytfpclhkieccojaa.Pure
