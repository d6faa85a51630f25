/- DayBack: days on, and back; a date is the other and how far it is apart. -/
import Derived.Test.YtgjbdojpncmmlaaQfbncjpmakp
import Derived.Test.YtgjbdojpncmmlaaQgidmalbbah
import Derived.Test.YtgjbdojpncmmlaaQlnalhoabhm
import Derived.Test.YtgjbdojpncmmlaaQeccfklbhpc
import Derived.Test.YtgjbdojpncmmlaaQnlkipaphod
import Derived.Test.YtgjbdojpncmmlaaQnfpioekdkn
import Derived.Test.YtgjbdojpncmmlaaQmfpechhipb
import Derived.Test.YtgjbdojpncmmlaaQjdcdepankn
import Derived.Test.YtgjbdojpncmmlaaQffgdbkmmki
import Derived.Test.YtgjbdojpncmmlaaQkfmlepigmo
import Derived.Test.YtgjbdojpncmmlaaQpfaeeodkmh
import Derived.Test.YtgjbdojpncmmlaaQpoommiocpc
namespace Go.Proofs.Ytgjbdojpncmmlaa.Pure
set_option linter.unusedVariables false
set_option linter.unusedSimpArgs false
open Go.RowKit Go.Proofs.Ytgjbdojpncmmlaa.P Go.Proofs.YtgjbdojpncmmlaaW.PrintWords Go.Proofs.YtgjbdojpncmmlaaW.PrintLast Go.Proofs.Ytgjbdojpncmmlaa.Civ
theorem sgn_sub_pos (x y : Int) : decide (sgn x y > 0) = decide (x - y > 0) := by
  apply decide_eq_decide.2
  rcases Int.lt_trichotomy x y with g | g | g
  · rw [sgn_lt g]; omega
  · rw [sgn_eq g]; omega
  · rw [sgn_gt g]; omega
theorem sgn_sub_neg (x y : Int) : decide (sgn x y < 0) = decide (x - y < 0) := by
  apply decide_eq_decide.2
  rcases Int.lt_trichotomy x y with g | g | g
  · rw [sgn_lt g]; omega
  · rw [sgn_eq g]; omega
  · rw [sgn_gt g]; omega
theorem back_j1 (i n j m : Int) : Ev (fun k => computuslaw15_DayBack.j1 k i n j m) true := by
  refine Ev.succ ?_
  simp only [computuslaw15_DayBack.j1]
  refine Ev.bind (subD_ev i n j m) ?_
  unfold subD
  by_cases h : DR i n ∧ DR j m
  · rw [if_pos h]
    by_cases g : i = 0 ∧ j = 0
    · rw [if_pos g]
      obtain ⟨rfl, rfl⟩ := g
      have hn : DIn n := dr_fin.1 h.1
      have hm : DIn m := dr_fin.1 h.2
      have hd : I64 (n - m) := by unfold DIn at hn hm; unfold I64; omega
      refine Ev.pos rfl ?_
      refine Ev.bind0 (addD_eq 0 m (n - m) hd) ?_
      have e : addD 0 m (n - m) = (0, n, 0) := by
        unfold addD made
        rw [if_pos h.2, if_pos rfl, show m + (n - m) = n by omega, if_pos hn]
      rw [e]
      refine Ev.pos (by simp) (Ev.pos rfl ?_)
      have c : cmpD 0 n 0 m = sgn n m := by
        unfold cmpD lex
        rw [if_pos h, sgn_eq rfl, if_pos rfl]
      refine Ev.bind (cmpD_ev 0 n 0 m) ?_
      rw [c]
      refine Ev.pos (by rw [sgn_sub_pos]; exact beq_self_eq_true _) ?_
      refine Ev.bind (cmpD_ev 0 n 0 m) ?_
      rw [c]
      exact Ev.pos (by rw [sgn_sub_neg]; exact beq_self_eq_true _) known_end
    · rw [if_neg g]; exact Ev.neg (by decide) known_end
  · rw [if_neg h]; exact Ev.neg (by decide) known_end
theorem DayBack : computuslaw15_DayBack.Pure := by
  intro i n j m q _ _ _ _ hq
  have hq := i64_of_wf hq
  refine Ev.rounds ?_
  unfold computuslaw15_DayBack.f
  refine Ev.bind0 (addD_eq i n q hq) ?_
  have skip : ∀ x y, Ev (fun k => computuslaw15_DayBack.j0 k q false i n j m x y) true := by
    intro x y
    refine Ev.succ ?_
    simp only [computuslaw15_DayBack.j0, Bool.false_eq_true, if_false]
    exact back_j1 i n j m
  by_cases g : (addD i n q).2.2 = 0
  · refine Ev.pos g ?_
    by_cases f : q > -1099511627776
    · rw [decide_eq_true f]
      have hR : DR i n := by
        by_cases hR : DR i n
        · exact hR
        · unfold addD at g
          rw [if_neg hR] at g
          exact absurd g (by decide)
      have hq' : I64 (-q) := by unfold I64 at *; omega
      have w : wrap64 (-q) = -q := w64_of hq'
      have back : addD (addD i n q).1 (addD i n q).2.1 (-q) = (i, n, 0) := by
        by_cases z : i = 0
        · subst z
          have hn : DIn n := dr_fin.1 hR
          have e : addD 0 n q = made (n + q) := by
            unfold addD
            rw [if_pos hR, if_pos rfl]
          rw [e] at g ⊢
          have hs : DIn (n + q) := by
            by_cases hs : DIn (n + q)
            · exact hs
            · unfold made at g
              rw [if_neg hs] at g
              exact absurd g (by decide)
          have e2 : made (n + q) = (0, n + q, 0) := if_pos hs
          rw [e2]
          unfold addD made
          rw [if_pos (.inl ⟨rfl, hs⟩), if_pos rfl]
          show (if DIn (n + q + -q) then (0, n + q + -q, 0) else (0, 0, 10)) = ((0 : Int), n, (0 : Int))
          rw [show n + q + -q = n by omega, if_pos hn]
        · have e : addD i n q = (i, n, 0) := by
            unfold addD
            rw [if_pos hR, if_neg z]
          rw [e]
          unfold addD
          rw [if_pos hR, if_neg z]
      refine Ev.succ ?_
      simp only [computuslaw15_DayBack.j0, if_true]
      rw [w]
      refine Ev.bind0 (addD_eq _ _ (-q) hq') ?_
      rw [back]
      exact Ev.neg (by simp) (Ev.pos rfl (back_j1 i n j m))
    · rw [decide_eq_false f]
      exact skip _ _
  · exact Ev.neg g (skip _ _)
end Go.Proofs.Ytgjbdojpncmmlaa.Pure
