/- NumMuls: the product of any two numbers is what the reference says, or out of range; for every input of 64-bit numbers. -/
import Derived.Test.YtacdejgkedcikaaBase
import Derived.Test.YtacdejgkedcikaaNumWide
import Derived.Test.YtacdejgkedcikaaNumFns
import Derived.Test.YtacdejgkedcikaaNumRef
import Derived.Test.YtacdejgkedcikaaNumOver
import Derived.Test.YtacdejgkedcikaaNumRefFns
import Derived.Test.YtacdejgkedcikaaNumKnown
import Derived.Test.YtacdejgkedcikaaPx0
import Derived.Test.YtacdejgkedcikaaPx16
namespace Go.Proofs.Ytacdejgkedcikaa.Pure
set_option linter.unusedVariables false
set_option linter.unusedSimpArgs false
open Go.RowKit Go.Proofs.Ytacdejgkedcikaa.P Go.Proofs.YtacdejgkedcikaaW.PrintWords Go.Proofs.YtacdejgkedcikaaW.PrintLast Go.Proofs.Ytacdejgkedcikaa.Civ
theorem NumMuls : computuslaw01_NumMuls.Pure := by
  intro a b ha hb
  have ha := i64_of_wf ha
  have hb := i64_of_wf hb
  refine Ev.rounds ?_
  unfold computuslaw01_NumMuls.f
  refine Ev.bind (Ev.at1 fun k => mul_eq k a b ha hb) (Ev.bind (rmul_ev a b ha hb) ?_)
  simp only [if_true]
  exact known_end
end Go.Proofs.Ytacdejgkedcikaa.Pure
