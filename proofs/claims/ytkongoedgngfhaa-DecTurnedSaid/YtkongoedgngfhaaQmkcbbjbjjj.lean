/- DecTurned: sums and products are the same the other way round; so is the order, but for its sign. -/
import Derived.Test.YtkongoedgngfhaaQgfhabadofj
import Derived.Test.YtkongoedgngfhaaQpdplnmmfcd
namespace Go.Proofs.Ytkongoedgngfhaa.Pure
set_option linter.unusedVariables false
set_option linter.unusedSimpArgs false
open Go.RowKit Go.Proofs.Ytkongoedgngfhaa.P Go.Proofs.YtkongoedgngfhaaW.PrintWords Go.Proofs.YtkongoedgngfhaaW.PrintLast Go.Proofs.Ytkongoedgngfhaa.Civ
theorem given_eqT (n s : Int) : computuslaw04_given.f n s = some (n, s) := rfl
theorem DecTurned : computuslaw04_DecTurned.Pure := by
  intro n s m r hn _ hm _
  have hn := i64_of_wf hn
  have hm := i64_of_wf hm
  refine Ev.rounds ?_
  unfold computuslaw04_DecTurned.f
  refine Ev.bind0 (given_eqT n s) (Ev.bind0 (given_eqT m r) (Ev.bind (addD_ev hn hm) (Ev.bind0 (given_eqT m r) (Ev.bind0 (given_eqT n s) (Ev.bind (addD_ev hm hn) (Ev.bind0 (given_eqT n s) (Ev.bind0 (given_eqT m r) (Ev.bind (mulD_ev hn hm) (Ev.bind0 (given_eqT m r) (Ev.bind0 (given_eqT n s) (Ev.bind (mulD_ev hm hn) ?_)))))))))))
  have e : sumD m r n s (m * p10 (mx r s - r) + n * p10 (mx r s - s)) = sumD n s m r (n * p10 (mx s r - s) + m * p10 (mx s r - r)) := by
    have e1 : mx s r = mx r s := by unfold mx; split <;> split <;> omega
    rw [sumD_comm, e1, Int.add_comm]
  rw [e, mulD_comm m r n s]
  refine Ev.pos (by simp) (Ev.pos rfl (Ev.pos (by simp) (Ev.pos rfl ?_)))
  refine Ev.bind0 (given_eqT n s) (Ev.bind0 (given_eqT m r) (Ev.bind (cmpD_ev hn hm) (Ev.bind0 (given_eqT m r) (Ev.bind0 (given_eqT n s) (Ev.bind (cmpD_ev hm hn) ?_)))))
  exact Ev.pos (ordD_neg n s m r) known_end
end Go.Proofs.Ytkongoedgngfhaa.Pure
