/- NumScales: one number times another one, and how often a third one is there, is what the reference says, though the product is larger than a number may be; for every input of 64-bit numbers. -/
import Derived.Test.YtacdejgkedcikaaBase
import Derived.Test.YtacdejgkedcikaaNumWide
import Derived.Test.YtacdejgkedcikaaNumFns
import Derived.Test.YtacdejgkedcikaaNumRef
import Derived.Test.YtacdejgkedcikaaNumOver
import Derived.Test.YtacdejgkedcikaaNumRefFns
import Derived.Test.YtacdejgkedcikaaNumDiv64
import Derived.Test.YtacdejgkedcikaaNumKnown
import Derived.Test.YtacdejgkedcikaaPx0
import Derived.Test.YtacdejgkedcikaaPx16
namespace Go.Proofs.Ytacdejgkedcikaa.Pure
set_option linter.unusedVariables false
set_option linter.unusedSimpArgs false
open Go.RowKit Go.Proofs.Ytacdejgkedcikaa.P Go.Proofs.YtacdejgkedcikaaW.PrintWords Go.Proofs.YtacdejgkedcikaaW.PrintLast Go.Proofs.Ytacdejgkedcikaa.Civ
theorem NumScales : computuslaw01_NumScales.Pure := by
  intro a b c ha hb hc
  have ha := i64_of_wf ha
  have hb := i64_of_wf hb
  have hc := i64_of_wf hc
  refine Ev.rounds ?_
  unfold computuslaw01_NumScales.f
  by_cases h : c = 0
  · subst h
    refine Ev.bind (Ev.at0 fun k => scale_zero k a b) (Ev.bind (rscale_zero a b) ?_)
    simp only [if_true]
    exact known_end
  · refine Ev.bind (scale_ev a b c ha hb hc h) (Ev.bind (rscale_ev a b c ha hb hc h) ?_)
    simp only [if_true]
    exact known_end
end Go.Proofs.Ytacdejgkedcikaa.Pure
