/- SpanSums: an interval turned, two together, the one less the other, as the reference says; for every input. -/
import Derived.Test.YtfpclhkieccojaaQjafjcfinoc
import Derived.Test.YtfpclhkieccojaaQaljbmmdblf
import Derived.Test.YtfpclhkieccojaaQepllhimjcm
import Derived.Test.YtfpclhkieccojaaQaohoffhmac
import Derived.Test.YtfpclhkieccojaaQmdgcnhkfkm
import Derived.Test.YtfpclhkieccojaaQgnghoplpgi
import Derived.Test.YtfpclhkieccojaaQchcjinhkel
import Derived.Test.YtfpclhkieccojaaQeafcmfchom
import Derived.Test.YtfpclhkieccojaaQnblandfbkd
namespace Go.Proofs.Ytfpclhkieccojaa.Pure
set_option linter.unusedVariables false
set_option linter.unusedSimpArgs false
open Go.RowKit Go.Proofs.Ytfpclhkieccojaa.P Go.Proofs.YtfpclhkieccojaaW.PrintWords Go.Proofs.YtfpclhkieccojaaW.PrintLast Go.Proofs.Ytfpclhkieccojaa.Civ
theorem SpanSums : computuslaw16_SpanSums.Pure := by
  intro i m d u j n e v hi _ _ hu hj _ _ hv
  have hi := i64_of_wf hi
  have hu := i64_of_wf hu
  have hj := i64_of_wf hj
  have hv := i64_of_wf hv
  refine Ev.rounds ?_
  unfold computuslaw16_SpanSums.f
  refine Ev.bind0 (negS_eq i m d u hu) ?_
  refine Ev.bind0 (rnegS_eq i m d u) ?_
  refine Ev.bind (addS_ev i m d u j n e v hi hj hu hv) ?_
  refine Ev.bind (raddS_ev i m d u j n e v) ?_
  refine Ev.bind (subS_ev i m d u j n e v hi hu hv) ?_
  refine Ev.bind (rsubS_ev i m d u j n e v) ?_
  simp only [beq_self_eq_true, Bool.and_self, if_true]
  refine Ev.bind0 (right_eq i m d u hu) (Ev.bind0 (rright_eq i m d u) ?_)
  simp only [beq_self_eq_true, if_true]
  exact known_end
end Go.Proofs.Ytfpclhkieccojaa.Pure
