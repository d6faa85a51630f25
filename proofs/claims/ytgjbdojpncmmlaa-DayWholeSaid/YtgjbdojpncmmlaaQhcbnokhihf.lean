/- DayWhole: a stamp is its date and the time of that day. -/
import Derived.Test.YtgjbdojpncmmlaaQkjbhenggpj
import Derived.Test.YtgjbdojpncmmlaaQkhhlodlbmi
import Derived.Test.YtgjbdojpncmmlaaQdpjmjfgffc
import Derived.Test.YtgjbdojpncmmlaaQfoneikkgkj
import Derived.Test.YtgjbdojpncmmlaaQbphhhpgenm
import Derived.Test.YtgjbdojpncmmlaaQeblellkajb
import Derived.Test.YtgjbdojpncmmlaaQagjandoebo
import Derived.Test.YtgjbdojpncmmlaaQeiaddofkio
import Derived.Test.YtgjbdojpncmmlaaQeoggfmjaid
import Derived.Test.YtgjbdojpncmmlaaQohlkikbjne
import Derived.Test.YtgjbdojpncmmlaaQhfepchlbfi
import Derived.Test.YtgjbdojpncmmlaaQmdibmoflpm
import Derived.Test.YtgjbdojpncmmlaaQiehhanhefg
import Derived.Test.YtgjbdojpncmmlaaQkegnhodiek
import Derived.Test.YtgjbdojpncmmlaaQjcggnpkcfc
namespace Go.Proofs.Ytgjbdojpncmmlaa.Pure
set_option linter.unusedVariables false
set_option linter.unusedSimpArgs false
open Go.RowKit Go.Proofs.Ytgjbdojpncmmlaa.P Go.Proofs.YtgjbdojpncmmlaaW.PrintWords Go.Proofs.YtgjbdojpncmmlaaW.PrintLast Go.Proofs.Ytgjbdojpncmmlaa.Civ
theorem DayWhole : computuslaw15_DayWhole.Pure := by
  intro i u _ hu
  have hu := i64_of_wf hu
  refine Ev.rounds ?_
  unfold computuslaw15_DayWhole.f
  refine Ev.bind (ofD_ev i u hu) ?_
  unfold ofD
  by_cases h : DRS i u
  · rw [if_pos h]
    by_cases g : i = 0
    · subst g
      rw [if_pos rfl]
      have hD : DIn (u / 86400000000) := drs_fin.1 h
      have hR : DR 0 (u / 86400000000) := .inl ⟨rfl, hD⟩
      have e1 : stampD 0 (u / 86400000000) (u % 86400000000) = (0, u, 0) := by
        unfold stampD
        have e : u / 86400000000 * 86400000000 + u % 86400000000 = u := by omega
        rw [if_pos ⟨hR, by omega, by omega⟩, if_pos rfl, e, if_pos hD]
      have e2 : stampD 0 (u / 86400000000) 0 = (0, u / 86400000000 * 86400000000, 0) := by
        unfold stampD
        have e : (u / 86400000000 * 86400000000 + 0) / 86400000000 = u / 86400000000 := by omega
        rw [if_pos ⟨hR, by omega, by omega⟩, if_pos rfl, e, if_pos hD, Int.add_zero]
      refine Ev.pos rfl ?_
      refine Ev.bind (stampD_ev 0 (u / 86400000000) (u % 86400000000)) ?_
      refine Ev.bind (startD_ev 0 (u / 86400000000)) ?_
      rw [e1, e2]
      have hb : I64 (u / 86400000000 * 86400000000) := by unfold DIn at hD; unfold I64; omega
      refine Ev.pos (by simp) (Ev.pos rfl (Ev.pos rfl ?_))
      refine Ev.bind (cmpT_ev 0 (u / 86400000000 * 86400000000) 0 u hb hu) ?_
      have hc : cmpT 0 (u / 86400000000 * 86400000000) 0 u ≤ 0 := by
        unfold cmpT lex
        split
        · rw [sgn_eq rfl, if_pos rfl]
          unfold sgn
          split
          · decide
          · rw [if_neg (by omega)]; decide
        · decide
      refine Ev.pos hc (Ev.pos (by show u % 86400000000 ≥ 0; omega) (Ev.pos (by show u % 86400000000 < 86400000000; omega) (Ev.pos ?_ known_end)))
      show u / 86400000000 * 86400000000 = wrap64 (u - u % 86400000000)
      have e : u / 86400000000 * 86400000000 = u - u % 86400000000 := by omega
      rw [← e, w64_of hb]
    · rw [if_neg g]
      have z : u = 0 := by unfold DRS at h; omega
      subst z
      have hR : DR i 0 := by unfold DRS at h; unfold DR; omega
      have e1 : stampD i 0 0 = (i, 0, 0) := by
        unfold stampD
        rw [if_pos ⟨hR, by omega, by omega⟩, if_neg g]
      refine Ev.pos rfl ?_
      refine Ev.bind (stampD_ev i 0 0) ?_
      refine Ev.bind (startD_ev i 0) ?_
      rw [e1]
      refine Ev.pos (by simp) (Ev.pos rfl (Ev.pos rfl ?_))
      refine Ev.bind (cmpT_ev i 0 i 0 hu hu) ?_
      have hc : cmpT i 0 i 0 ≤ 0 := by
        unfold cmpT lex
        rw [sgn_eq rfl, sgn_eq rfl]
        split <;> decide
      exact Ev.pos hc (Ev.pos (by show (0 : Int) ≥ 0; omega) (Ev.pos (by show (0 : Int) < 86400000000; omega) (Ev.pos (show (0 : Int) = wrap64 (0 - 0) by rw [show (0 : Int) - 0 = 0 by omega]; exact (w64 (by omega) (by omega)).symm) known_end)))
  · rw [if_neg h]
    refine Ev.neg (by decide) ?_
    refine Ev.bind (rdrightS_ev i u hu) ?_
    exact Ev.neg (by rw [decide_eq_false h]; simp) known_end
end Go.Proofs.Ytgjbdojpncmmlaa.Pure
