/- NumSplits: days and microseconds of a time make it again, and the microseconds are those of a day; for every 64-bit number. -/
import Derived.Test.YtacdejgkedcikaaBase
import Derived.Test.YtacdejgkedcikaaNumWide
import Derived.Test.YtacdejgkedcikaaNumFns
import Derived.Test.YtacdejgkedcikaaNumKnown
import Derived.Test.YtacdejgkedcikaaPx0
import Derived.Test.YtacdejgkedcikaaPx18
namespace Go.Proofs.Ytacdejgkedcikaa.Pure
set_option linter.unusedVariables false
set_option linter.unusedSimpArgs false
open Go.RowKit Go.Proofs.Ytacdejgkedcikaa.P Go.Proofs.YtacdejgkedcikaaW.PrintWords Go.Proofs.YtacdejgkedcikaaW.PrintLast Go.Proofs.Ytacdejgkedcikaa.Civ
theorem NumSplits : computuslaw01_NumSplits.Pure := by
  intro a ha
  have ha := i64_of_wf ha
  have ha' := ha
  unfold I64 at ha'
  refine Ev.rounds ?_
  unfold computuslaw01_NumSplits.f
  refine Ev.bind (Ev.at1 fun k => split_eq k a ha) ?_
  refine Ev.neg (by omega) ?_
  simp only [decide_eq_false (show ¬ a % 86400000000 ≥ 86400000000 by omega)]
  refine Ev.succ ?_
  simp only [computuslaw01_NumSplits.j0]
  refine Ev.neg (by simp) ?_
  refine Ev.bind (Ev.at1 fun k => mul_eq k _ _ (by unfold I64; omega) (by unfold I64; omega)) ?_
  by_cases h : I64 (a / 86400000000 * 86400000000)
  · rw [out_in h]
    refine Ev.pos rfl ?_
    refine Ev.bind0 (add_eq _ _ h (by unfold I64; omega)) ?_
    rw [show a / 86400000000 * 86400000000 + a % 86400000000 = a by omega, out_in ha]
    simp only [if_true]
    exact known_end
  · rw [out_no h]
    refine Ev.neg (by simp) ?_
    refine Ev.pos (by unfold I64 at h; omega) ?_
    exact known_end
end Go.Proofs.Ytacdejgkedcikaa.Pure
