/- DayMoves: days and months on, how far apart, and the order, as the reference says; for every input. -/
import Derived.Test.YtgjbdojpncmmlaaQckifepldkc
import Derived.Test.YtgjbdojpncmmlaaQpbhbbcmnip
import Derived.Test.YtgjbdojpncmmlaaQldopppcfjk
import Derived.Test.YtgjbdojpncmmlaaQjpmibpglgh
import Derived.Test.YtgjbdojpncmmlaaQjjeoeinjcb
import Derived.Test.YtgjbdojpncmmlaaQlldpbiopdl
import Derived.Test.YtgjbdojpncmmlaaQagajpmdjkf
import Derived.Test.YtgjbdojpncmmlaaQelpjppmcbd
import Derived.Test.YtgjbdojpncmmlaaQeccfklbhpc
import Derived.Test.YtgjbdojpncmmlaaQifokhmkkma
import Derived.Test.YtgjbdojpncmmlaaQbmflcecdej
import Derived.Test.YtgjbdojpncmmlaaQejjehoeccn
import Derived.Test.YtgjbdojpncmmlaaQgmhmahhkaa
import Derived.Test.YtgjbdojpncmmlaaQmgdmpnnkfc
import Derived.Test.YtgjbdojpncmmlaaQdjnddkhhhl
import Derived.Test.YtgjbdojpncmmlaaQcaoedimbfp
import Derived.Test.YtgjbdojpncmmlaaQnfcfnbpnoo
import Derived.Test.YtgjbdojpncmmlaaQnpaceckfel
import Derived.Test.YtgjbdojpncmmlaaQopgonhhife
import Derived.Test.YtgjbdojpncmmlaaQfphkjoimgo
namespace Go.Proofs.Ytgjbdojpncmmlaa.Pure
set_option linter.unusedVariables false
set_option linter.unusedSimpArgs false
open Go.RowKit Go.Proofs.Ytgjbdojpncmmlaa.P Go.Proofs.YtgjbdojpncmmlaaW.PrintWords Go.Proofs.YtgjbdojpncmmlaaW.PrintLast Go.Proofs.Ytgjbdojpncmmlaa.Civ
theorem DayMoves : computuslaw15_DayMoves.Pure := by
  intro i n j m q _ _ _ _ hq
  have hq := i64_of_wf hq
  refine Ev.rounds ?_
  unfold computuslaw15_DayMoves.f
  obtain ⟨r, h1, h2⟩ := dshift_same i n q
  refine Ev.bind0 (addD_eq i n q hq) (Ev.bind (raddD_ev i n q hq) (Ev.bind (subD_ev i n j m) (Ev.bind (rsubD_ev i n j m) (Ev.bind h1 (Ev.bind h2 ?_)))))
  simp only [beq_self_eq_true, Bool.and_self, if_true]
  refine Ev.bind (cmpD_ev i n j m) (Ev.bind (rcmpD_ev i n j m) ?_)
  simp only [if_true]
  exact known_end
end Go.Proofs.Ytgjbdojpncmmlaa.Pure
