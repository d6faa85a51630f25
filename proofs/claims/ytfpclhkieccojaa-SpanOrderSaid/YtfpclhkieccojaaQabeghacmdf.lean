/- SpanOrder: which interval is the longer one, as the reference says; the other way round and with both turned. -/
import Derived.Test.YtfpclhkieccojaaQcmladpdgda
import Derived.Test.YtfpclhkieccojaaQkaflgonjoo
import Derived.Test.YtfpclhkieccojaaQpnmbjhgope
import Derived.Test.YtfpclhkieccojaaQlgifahjbdg
import Derived.Test.YtfpclhkieccojaaQnddkanmakd
import Derived.Test.YtfpclhkieccojaaQloijnlodjn
import Derived.Test.YtfpclhkieccojaaQhopfhcpoap
import Derived.Test.YtfpclhkieccojaaQonipindanh
import Derived.Test.YtfpclhkieccojaaQeafcmfchom
import Derived.Test.YtfpclhkieccojaaQegjenkpcim
namespace Go.Proofs.Ytfpclhkieccojaa.Pure
set_option linter.unusedVariables false
set_option linter.unusedSimpArgs false
open Go.RowKit Go.Proofs.Ytfpclhkieccojaa.P Go.Proofs.YtfpclhkieccojaaW.PrintWords Go.Proofs.YtfpclhkieccojaaW.PrintLast Go.Proofs.Ytfpclhkieccojaa.Civ
theorem sgn_flip (x y : Int) : sgn y x = -(sgn x y) := by
  rcases Int.lt_trichotomy x y with g | g | g
  · rw [sgn_lt g, sgn_gt g]; rfl
  · rw [sgn_eq g, sgn_eq g.symm]; rfl
  · rw [sgn_gt g, sgn_lt g]
theorem sgn_turn (x y : Int) : sgn (-y) (-x) = sgn x y := by
  rcases Int.lt_trichotomy x y with g | g | g
  · rw [sgn_lt g, sgn_lt (by omega)]
  · rw [sgn_eq g, sgn_eq (by omega)]
  · rw [sgn_gt g, sgn_gt (by omega)]
theorem sgn_bd (x y : Int) : -1 ≤ sgn x y ∧ sgn x y ≤ 1 := by
  rcases Int.lt_trichotomy x y with g | g | g
  · rw [sgn_lt g]; omega
  · rw [sgn_eq g]; omega
  · rw [sgn_gt g]; omega
theorem tot_turn (m d u : Int) : tot (-m) (-d) (-u) = -(tot m d u) := by unfold tot; omega
theorem cmpS_flip (i m d u j n e v : Int) : cmpS j n e v i m d u = -(cmpS i m d u j n e v) := by
  unfold cmpS
  by_cases h : SOk i m d u ∧ SOk j n e v
  · have h' := h.symm
    rw [if_pos h, if_pos h', sgn_flip i j, sgn_flip (tot m d u) (tot n e v)]
    by_cases g : sgn i j = 0
    · rw [if_pos g, if_pos (by omega)]
    · rw [if_neg g, if_neg (by omega)]
  · rw [if_neg h, if_neg (fun f => h f.symm)]; rfl
theorem cmpS_turn {i m d u j n e v : Int} (h1 : SOk i m d u) (h2 : SOk j n e v) : cmpS (-j) (-n) (-e) (-v) (-i) (-m) (-d) (-u) = cmpS i m d u j n e v := by
  have a : SOk (-j) (-n) (-e) (-v) ∧ SOk (-i) (-m) (-d) (-u) := ⟨sok_neg h2, sok_neg h1⟩
  have b : SOk i m d u ∧ SOk j n e v := ⟨h1, h2⟩
  unfold cmpS
  rw [if_pos a, if_pos b, tot_turn, tot_turn, sgn_turn, sgn_turn]
theorem cmpS_bd (i m d u j n e v : Int) : -1 ≤ cmpS i m d u j n e v ∧ cmpS i m d u j n e v ≤ 1 := by
  unfold cmpS
  split
  · split <;> exact sgn_bd _ _
  · omega
theorem SpanOrder : computuslaw16_SpanOrder.Pure := by
  intro i m d u j n e v _ _ _ hu _ _ _ hv
  have hu := i64_of_wf hu
  have hv := i64_of_wf hv
  refine Ev.rounds ?_
  unfold computuslaw16_SpanOrder.f
  refine Ev.bind (cmpS_ev i m d u j n e v hu hv) ?_
  refine Ev.bind (rcmpS_ev i m d u j n e v) ?_
  refine Ev.pos rfl ?_
  refine Ev.bind (signS_ev i m d u hu) ?_
  refine Ev.bind (rsignS_ev i m d u) ?_
  rw [bne_self_eq_false]
  refine Ev.succ ?_
  simp only [computuslaw16_SpanOrder.j0, Bool.false_eq_true, if_false]
  refine Ev.bind0 (negS_eq i m d u hu) ?_
  refine Ev.bind0 (negS_eq j n e v hv) ?_
  unfold negS
  by_cases h1 : SOk i m d u
  · rw [if_pos h1]
    refine Ev.pos rfl ?_
    by_cases h2 : SOk j n e v
    · rw [if_pos h2]
      refine Ev.succ ?_
      have e0 : ((sp (-j) (-n) (-e) (-v)).2.2.2.2 != 0) = false := rfl
      rw [e0]
      simp only [computuslaw16_SpanOrder.j1, Bool.false_eq_true, if_false]
      refine Ev.bind (cmpS_ev _ _ _ _ _ _ _ _ (sok_i64 (sok_neg h2)).2.2.2 (sok_i64 (sok_neg h1)).2.2.2) ?_
      refine Ev.bind (cmpS_ev i m d u j n e v hu hv) ?_
      refine Ev.pos (cmpS_turn h1 h2) ?_
      refine Ev.bind (cmpS_ev j n e v i m d u hv hu) ?_
      refine Ev.bind (cmpS_ev i m d u j n e v hu hv) ?_
      have b := cmpS_bd i m d u j n e v
      refine Ev.pos ?_ known_end
      rw [w64 (by omega) (by omega)]
      exact cmpS_flip i m d u j n e v
    · rw [if_neg h2]
      refine Ev.succ ?_
      have e0 : ((bad 1).2.2.2.2 != 0) = true := rfl
      rw [e0]
      simp only [computuslaw16_SpanOrder.j1, if_true]
      exact known_end
  · rw [if_neg h1]
    refine Ev.neg (show ¬ ((1 : Int) = 0) by decide) ?_
    refine Ev.succ ?_
    simp only [computuslaw16_SpanOrder.j1, if_true]
    exact known_end
end Go.Proofs.Ytfpclhkieccojaa.Pure
