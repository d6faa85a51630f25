/- DayParts: dates of any parts, and the parts of any date, as the reference says; for every input. -/
import Derived.Test.YtgjbdojpncmmlaaQanfobienjh
import Derived.Test.YtgjbdojpncmmlaaQpbhbbcmnip
import Derived.Test.YtgjbdojpncmmlaaQiboeomopel
import Derived.Test.YtgjbdojpncmmlaaQljchoicndo
import Derived.Test.YtgjbdojpncmmlaaQeccfklbhpc
import Derived.Test.YtgjbdojpncmmlaaQbjmgmekjbo
import Derived.Test.YtgjbdojpncmmlaaQeajldolgfp
import Derived.Test.YtgjbdojpncmmlaaQpoegllaakk
import Derived.Test.YtgjbdojpncmmlaaQfmnalcfeph
import Derived.Test.YtgjbdojpncmmlaaQofpcjkmbcl
import Derived.Test.YtgjbdojpncmmlaaQjggjagooeo
namespace Go.Proofs.Ytgjbdojpncmmlaa.Pure
set_option linter.unusedVariables false
set_option linter.unusedSimpArgs false
open Go.RowKit Go.Proofs.Ytgjbdojpncmmlaa.P Go.Proofs.YtgjbdojpncmmlaaW.PrintWords Go.Proofs.YtgjbdojpncmmlaaW.PrintLast Go.Proofs.Ytgjbdojpncmmlaa.Civ
theorem DayParts : computuslaw15_DayParts.Pure := by
  intro y m d i n _ _ _ _ _
  refine Ev.rounds ?_
  unfold computuslaw15_DayParts.f
  obtain ⟨r, h1, h2⟩ := dparts_ev i n
  refine Ev.bind0 (makeD_eq y m d) (Ev.bind (rmakeD_ev y m d) (Ev.bind0 h1 (Ev.bind h2 ?_)))
  simp only [beq_self_eq_true, Bool.and_self, if_true]
  refine Ev.bind0 (dright_eq i n) (Ev.bind (rdright_ev i n) ?_)
  simp only [beq_self_eq_true, if_true]
  exact known_end
end Go.Proofs.Ytgjbdojpncmmlaa.Pure
