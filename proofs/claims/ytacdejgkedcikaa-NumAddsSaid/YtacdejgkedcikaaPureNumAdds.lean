/- NumAdds: the sum and the difference of any two numbers, and the other sign of one, are what the reference says, or out of range; for every input of 64-bit numbers. -/
import Derived.Test.YtacdejgkedcikaaBase
import Derived.Test.YtacdejgkedcikaaNumWide
import Derived.Test.YtacdejgkedcikaaNumFns
import Derived.Test.YtacdejgkedcikaaNumRef
import Derived.Test.YtacdejgkedcikaaNumOver
import Derived.Test.YtacdejgkedcikaaNumRefFns
import Derived.Test.YtacdejgkedcikaaNumKnown
import Derived.Test.YtacdejgkedcikaaPx0
import Derived.Test.YtacdejgkedcikaaPx19
namespace Go.Proofs.Ytacdejgkedcikaa.Pure
set_option linter.unusedVariables false
set_option linter.unusedSimpArgs false
open Go.RowKit Go.Proofs.Ytacdejgkedcikaa.P Go.Proofs.YtacdejgkedcikaaW.PrintWords Go.Proofs.YtacdejgkedcikaaW.PrintLast Go.Proofs.Ytacdejgkedcikaa.Civ
theorem NumAdds : computuslaw01_NumAdds.Pure := by
  intro a b ha hb
  have ha := i64_of_wf ha
  have hb := i64_of_wf hb
  refine Ev.rounds ?_
  unfold computuslaw01_NumAdds.f
  refine Ev.bind0 (add_eq a b ha hb) (Ev.bind (radd_ev a b ha hb) (Ev.bind0 (sub_eq a b ha hb) (Ev.bind (rsub_ev a b ha hb) (Ev.bind0 (neg_eq a ha) (Ev.bind (rneg_ev a ha) ?_)))))
  simp only [if_true]
  exact known_end
end Go.Proofs.Ytacdejgkedcikaa.Pure
