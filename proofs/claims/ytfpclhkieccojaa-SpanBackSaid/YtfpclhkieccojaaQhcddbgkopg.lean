/- SpanBack: a sum is the same the other way round, and less the one it is the other. -/
import Derived.Test.YtfpclhkieccojaaQjafjcfinoc
import Derived.Test.YtfpclhkieccojaaQeafcmfchom
import Derived.Test.YtfpclhkieccojaaQoodankjahh
import Derived.Test.YtfpclhkieccojaaQhndhnmlajo
import Derived.Test.YtfpclhkieccojaaQgfhnlelnpa
import Derived.Test.YtfpclhkieccojaaQlglohacllf
import Derived.Test.YtfpclhkieccojaaQcjdphadijg
import Derived.Test.YtfpclhkieccojaaQgnpffaanid
import Derived.Test.YtfpclhkieccojaaQjdhaoogbfm
import Derived.Test.YtfpclhkieccojaaQbhlffekofa
import Derived.Test.YtfpclhkieccojaaQeejhongend
import Derived.Test.YtfpclhkieccojaaQgliofakpan
import Derived.Test.YtfpclhkieccojaaQjekadhihcp
namespace Go.Proofs.Ytfpclhkieccojaa.Pure
set_option linter.unusedVariables false
set_option linter.unusedSimpArgs false
open Go.RowKit Go.Proofs.Ytfpclhkieccojaa.P Go.Proofs.YtfpclhkieccojaaW.PrintWords Go.Proofs.YtfpclhkieccojaaW.PrintLast Go.Proofs.Ytfpclhkieccojaa.Civ
theorem addS_comm (i m d u j n e v : Int) : addS i m d u j n e v = addS j n e v i m d u := by
  unfold addS
  by_cases h : SOk i m d u ∧ SOk j n e v
  · rw [if_pos h, if_pos h.symm, Int.mul_comm j i]
    obtain ⟨h1, h2⟩ := h
    by_cases g : i * j < 0
    · rw [if_pos g, if_pos g]
    · rw [if_neg g, if_neg g]
      by_cases z : i = 0
      · by_cases y : j = 0
        · rw [if_pos z, if_pos y, if_pos y, if_pos z, Int.add_comm m n, Int.add_comm d e, Int.add_comm u v]
        · rw [if_pos z, if_neg y, if_neg y]
      · by_cases y : j = 0
        · rw [if_neg z, if_pos y, if_neg z]
        · rw [if_neg z, if_neg y]
          have a : (i = -1 ∨ i = 1) ∧ m = 0 ∧ d = 0 ∧ u = 0 := by unfold SOk at h1; omega
          have b : (j = -1 ∨ j = 1) ∧ n = 0 ∧ e = 0 ∧ v = 0 := by unfold SOk at h2; omega
          obtain ⟨a, rfl, rfl, rfl⟩ := a
          obtain ⟨b, rfl, rfl, rfl⟩ := b
          rcases a with rfl | rfl <;> rcases b with rfl | rfl
          · rfl
          · exact absurd (by decide) g
          · exact absurd (by decide) g
          · rfl
  · rw [if_neg h, if_neg (fun f => h f.symm)]
theorem sub_back {m d u n e v : Int} (h1 : SOk 0 m d u) (h2 : SOk 0 n e v) (h3 : SOk 0 (m + n) (d + e) (u + v)) : subS 0 (m + n) (d + e) (u + v) 0 n e v = sp 0 m d u := by
  unfold subS addS
  rw [if_pos h2, if_pos ⟨h3, sok_neg h2⟩, if_neg (by omega), if_pos rfl, if_pos (by omega)]
  unfold mkS
  rw [show m + n + -n = m by omega, show d + e + -e = d by omega, show u + v + -v = u by omega, if_pos h1]
theorem SpanBack : computuslaw16_SpanBack.Pure := by
  intro i m d u j n e v hi _ _ hu hj _ _ hv
  have hi := i64_of_wf hi
  have hu := i64_of_wf hu
  have hj := i64_of_wf hj
  have hv := i64_of_wf hv
  refine Ev.rounds ?_
  unfold computuslaw16_SpanBack.f
  refine Ev.bind (addS_ev i m d u j n e v hi hj hu hv) ?_
  refine Ev.bind (addS_ev j n e v i m d u hj hi hv hu) ?_
  rw [addS_comm j n e v i m d u]
  simp only [beq_self_eq_true, Bool.not_true, Bool.or_self, Bool.false_eq_true, if_false, bne_self_eq_false]
  refine Ev.succ ?_
  simp only [computuslaw16_SpanBack.j0, Bool.false_eq_true, if_false]
  have skip : ∀ (a b c x y z w p : Int), Ev (fun k => computuslaw16_SpanBack.j1 k true i m d u j n e v a b c x) true := by
    intro a b c x y z w p
    refine Ev.succ ?_
    simp only [computuslaw16_SpanBack.j1, if_true]
    exact known_end
  by_cases g : (addS i m d u j n e v).2.2.2.2 = 0
  · refine Ev.pos g ?_
    by_cases z : i = 0
    · refine Ev.pos z ?_
      by_cases y : j = 0
      · subst z
        subst y
        have h : SOk 0 m d u ∧ SOk 0 n e v := by
          by_cases h : SOk 0 m d u ∧ SOk 0 n e v
          · exact h
          · unfold addS at g
            rw [if_neg h] at g
            exact absurd g (by decide)
        have ea : addS 0 m d u 0 n e v = mkS (m + n) (d + e) (u + v) := by
          unfold addS
          rw [if_pos h, if_neg (by omega), if_pos rfl, if_pos rfl]
        rw [ea] at g ⊢
        have h3 : SOk 0 (m + n) (d + e) (u + v) := by
          by_cases h3 : SOk 0 (m + n) (d + e) (u + v)
          · exact h3
          · unfold mkS at g
            rw [if_neg h3] at g
            exact absurd g (by decide)
        have em : mkS (m + n) (d + e) (u + v) = sp 0 (m + n) (d + e) (u + v) := if_pos h3
        rw [em]
        refine Ev.succ ?_
        have e0 : ((0 : Int) != 0) = false := rfl
        simp only [computuslaw16_SpanBack.j1, e0, Bool.false_eq_true, if_false]
        refine Ev.bind (subS_ev _ _ _ _ _ _ _ _ (show I64 0 from by unfold I64; omega) (sok_i64 h3).2.2.2 hv) ?_
        have es : subS (sp 0 (m + n) (d + e) (u + v)).1 (sp 0 (m + n) (d + e) (u + v)).2.1 (sp 0 (m + n) (d + e) (u + v)).2.2.1 (sp 0 (m + n) (d + e) (u + v)).2.2.2.1 0 n e v = sp 0 m d u := sub_back h.1 h.2 h3
        rw [es]
        refine Ev.pos (by simp [sp]) ?_
        exact Ev.pos rfl known_end
      · have e0 : (j != 0) = true := bne_iff_ne.2 y
        rw [e0]
        exact skip _ _ _ _ 0 0 0 0
    · refine Ev.neg z ?_
      exact skip _ _ _ _ 0 0 0 0
  · refine Ev.neg g ?_
    exact skip _ _ _ _ 0 0 0 0
end Go.Proofs.Ytfpclhkieccojaa.Pure
