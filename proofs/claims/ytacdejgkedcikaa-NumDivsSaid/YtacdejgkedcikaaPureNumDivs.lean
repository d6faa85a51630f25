/- NumDivs: how often one number is in another one, and what is left, is what the reference says, or out of range; for every input of 64-bit numbers. -/
import Derived.Test.YtacdejgkedcikaaBase
import Derived.Test.YtacdejgkedcikaaNumWide
import Derived.Test.YtacdejgkedcikaaNumFns
import Derived.Test.YtacdejgkedcikaaNumRef
import Derived.Test.YtacdejgkedcikaaNumOver
import Derived.Test.YtacdejgkedcikaaNumRefFns
import Derived.Test.YtacdejgkedcikaaNumKnown
import Derived.Test.YtacdejgkedcikaaPx0
import Derived.Test.YtacdejgkedcikaaPx15
namespace Go.Proofs.Ytacdejgkedcikaa.Pure
set_option linter.unusedVariables false
set_option linter.unusedSimpArgs false
open Go.RowKit Go.Proofs.Ytacdejgkedcikaa.P Go.Proofs.YtacdejgkedcikaaW.PrintWords Go.Proofs.YtacdejgkedcikaaW.PrintLast Go.Proofs.Ytacdejgkedcikaa.Civ
theorem NumDivs : computuslaw01_NumDivs.Pure := by
  intro a b ha hb
  have ha := i64_of_wf ha
  have hb := i64_of_wf hb
  refine Ev.rounds ?_
  unfold computuslaw01_NumDivs.f
  by_cases h : b = 0
  · subst h
    refine Ev.bind (Ev.at0 fun k => div_zero k a) (Ev.bind (rdiv64_zero a) (Ev.bind0 (mod_zero a) (Ev.bind (rmod64_zero a) ?_)))
    simp only [if_true]
    exact known_end
  · refine Ev.bind (Ev.at1 fun k => div_eq k a b ha hb h) (Ev.bind (rdiv64_ev a b ha hb h) (Ev.bind0 (mod_eq a b ha hb h) (Ev.bind (rmod64_ev a b ha hb h) ?_)))
    simp only [if_true]
    exact known_end
end Go.Proofs.Ytacdejgkedcikaa.Pure
