/- SpanJustifies: days of 24 hours, months of 30 days, as the reference says: as long as before, and of one sign. -/
import Derived.Test.YtfpclhkieccojaaQmjlohbmpef
import Derived.Test.YtfpclhkieccojaaQnlgncfaieh
import Derived.Test.YtfpclhkieccojaaQgcopfjplea
import Derived.Test.YtfpclhkieccojaaQalcddkcjnb
import Derived.Test.YtfpclhkieccojaaQeafcmfchom
import Derived.Test.YtfpclhkieccojaaQhndhnmlajo
import Derived.Test.YtfpclhkieccojaaQfibmdljcim
import Derived.Test.YtfpclhkieccojaaQoimnmpglbn
import Derived.Test.YtfpclhkieccojaaQfbfdmbekpk
import Derived.Test.YtfpclhkieccojaaQpcogccbpcl
import Derived.Test.YtfpclhkieccojaaQfhfaejliib
import Derived.Test.YtfpclhkieccojaaQcmeemmflga
import Derived.Test.YtfpclhkieccojaaQgnpffaanid
import Derived.Test.YtfpclhkieccojaaQjdhaoogbfm
import Derived.Test.YtfpclhkieccojaaQbhlffekofa
import Derived.Test.YtfpclhkieccojaaQehmbfliiap
import Derived.Test.YtfpclhkieccojaaQglcnddgfgg
import Derived.Test.YtfpclhkieccojaaQheffghofnf
import Derived.Test.YtfpclhkieccojaaQmgnfeakkng
import Derived.Test.YtfpclhkieccojaaQopmahlfjph
import Derived.Test.YtfpclhkieccojaaQmpnnhdfopl
import Derived.Test.YtfpclhkieccojaaQhghpbonmpm
namespace Go.Proofs.Ytfpclhkieccojaa.Pure
set_option linter.unusedVariables false
set_option linter.unusedSimpArgs false
open Go.RowKit Go.Proofs.Ytfpclhkieccojaa.P Go.Proofs.YtfpclhkieccojaaW.PrintWords Go.Proofs.YtfpclhkieccojaaW.PrintLast Go.Proofs.Ytfpclhkieccojaa.Civ
/-- The higher part and the lower one, of one sign, together as much as before. -/
theorem lend_law (hi lo unit x : Int) : ((lend hi lo unit (sgn x 0)).1 = hi - 1 ∧ (lend hi lo unit (sgn x 0)).2 = lo + unit ∧ hi > 0 ∧ x < 0) ∨ ((lend hi lo unit (sgn x 0)).1 = hi + 1 ∧ (lend hi lo unit (sgn x 0)).2 = lo - unit ∧ hi < 0 ∧ x > 0) ∨
    ((lend hi lo unit (sgn x 0)).1 = hi ∧ (lend hi lo unit (sgn x 0)).2 = lo ∧ ¬ (hi > 0 ∧ x < 0) ∧ ¬ (hi < 0 ∧ x > 0)) := by
  have s1 := sgn_neg_iff (x := x)
  have s2 := sgn_pos_iff (x := x)
  by_cases a : hi > 0 ∧ x < 0
  · rw [lend_1 a.1 (s1.2 a.2)]; exact .inl ⟨rfl, rfl, a⟩
  · by_cases b : hi < 0 ∧ x > 0
    · rw [lend_2 b.1 (s2.2 b.2)]; exact .inr (.inl ⟨rfl, rfl, b⟩)
    · rw [lend_3 (by omega) (by omega)]; exact .inr (.inr ⟨rfl, rfl, a, b⟩)
def OneSign (m d u : Int) : Prop := (m > 0 ∨ d > 0 → 0 ≤ m ∧ 0 ≤ d ∧ 0 ≤ u) ∧ (m < 0 ∨ d < 0 → m ≤ 0 ∧ d ≤ 0 ∧ u ≤ 0)
theorem just_plain (m q d1 r m2 d2 d3 r3 : Int) (hd : -30 < d1 ∧ d1 < 30) (hr : -86400000000 < r ∧ r < 86400000000)
    (h1 : (m2 = m + q - 1 ∧ d2 = d1 + 30 ∧ m + q > 0 ∧ tot 0 d1 r < 0) ∨ (m2 = m + q + 1 ∧ d2 = d1 - 30 ∧ m + q < 0 ∧ tot 0 d1 r > 0) ∨ (m2 = m + q ∧ d2 = d1 ∧ ¬ (m + q > 0 ∧ tot 0 d1 r < 0) ∧ ¬ (m + q < 0 ∧ tot 0 d1 r > 0)))
    (h2 : (d3 = d2 - 1 ∧ r3 = r + 86400000000 ∧ d2 > 0 ∧ r < 0) ∨ (d3 = d2 + 1 ∧ r3 = r - 86400000000 ∧ d2 < 0 ∧ r > 0) ∨ (d3 = d2 ∧ r3 = r ∧ ¬ (d2 > 0 ∧ r < 0) ∧ ¬ (d2 < 0 ∧ r > 0))) :
    tot m2 d3 r3 = tot (m + q) d1 r ∧ OneSign m2 d3 r3 := by
  unfold tot OneSign at *
  rcases h1 with ⟨rfl, rfl, h1, h1'⟩ | ⟨rfl, rfl, h1, h1'⟩ | ⟨rfl, rfl, h1, h1'⟩
  · rcases h2 with ⟨rfl, rfl, h2, h2'⟩ | ⟨rfl, rfl, h2, h2'⟩ | ⟨rfl, rfl, h2, h2'⟩ <;> omega
  · rcases h2 with ⟨rfl, rfl, h2, h2'⟩ | ⟨rfl, rfl, h2, h2'⟩ | ⟨rfl, rfl, h2, h2'⟩ <;> omega
  · rcases h2 with ⟨rfl, rfl, h2, h2'⟩ | ⟨rfl, rfl, h2, h2'⟩ | ⟨rfl, rfl, h2, h2'⟩ <;> omega
theorem tdm (a b : Int) : a = b * Int.tdiv a b + Int.tmod a b := (Int.mul_tdiv_add_tmod a b).symm
theorem just_law {i m d u : Int} (h : (justS i m d u).2.2.2.2 = 0) : SOk i m d u ∧ SOk (justS i m d u).1 (justS i m d u).2.1 (justS i m d u).2.2.1 (justS i m d u).2.2.2.1 ∧ (justS i m d u).1 = i ∧
    tot (justS i m d u).2.1 (justS i m d u).2.2.1 (justS i m d u).2.2.2.1 = tot m d u ∧ OneSign (justS i m d u).2.1 (justS i m d u).2.2.1 (justS i m d u).2.2.2.1 := by
  unfold justS at *
  by_cases h1 : SOk i m d u
  · rw [if_pos h1] at h ⊢
    by_cases h2 : i = 0
    · rw [if_pos h2] at h ⊢
      by_cases h3 : -2147483647 ≤ jD d u ∧ jD d u ≤ 2147483647
      · rw [if_pos h3] at h ⊢
        unfold mkS at h ⊢
        by_cases h4 : SOk 0 (j1 m d u).1 (j2 m d u).1 (j2 m d u).2
        · rw [if_pos h4]
          have a := lend_law (m + Int.tdiv (jD d u) 30) (Int.tmod (jD d u) 30) 30 (tot 0 (Int.tmod (jD d u) 30) (jR u))
          have b := lend_law (j1 m d u).2 (jR u) 86400000000 (jR u)
          have c := just_plain m (Int.tdiv (jD d u) 30) (Int.tmod (jD d u) 30) (jR u) (j1 m d u).1 (j1 m d u).2 (j2 m d u).1 (j2 m d u).2 (tmod_bd _ (by decide)) (jR_bd u) a b
          have t1 := tdm (jD d u) 30
          have t2 := tdm u 86400000000
          have t3 : jD d u = d + Int.tdiv u 86400000000 := rfl
          have t4 : jR u = Int.tmod u 86400000000 := rfl
          refine ⟨h1, h4, h2.symm, ?_, c.2⟩
          refine c.1.trans ?_
          unfold tot
          omega
        · rw [if_neg h4] at h
          exact absurd h (by decide)
      · rw [if_neg h3] at h
        exact absurd h (by decide)
    · rw [if_neg h2]
      have z : m = 0 ∧ d = 0 ∧ u = 0 := by unfold SOk at h1; omega
      obtain ⟨rfl, rfl, rfl⟩ := z
      exact ⟨h1, h1, rfl, rfl, show OneSign 0 0 0 from by unfold OneSign; omega⟩
  · rw [if_neg h1] at h
    exact absurd h (by decide)
theorem SpanJustifies : computuslaw16_SpanJustifies.Pure := by
  intro i m d u _ _ _ hu
  have hu := i64_of_wf hu
  refine Ev.rounds ?_
  unfold computuslaw16_SpanJustifies.f
  refine Ev.bind (justS_ev i m d u hu) ?_
  refine Ev.bind (rjustS_ev i m d u hu) ?_
  simp only [beq_self_eq_true, Bool.not_true, Bool.or_self, Bool.false_eq_true, if_false, bne_self_eq_false]
  refine Ev.succ ?_
  simp only [computuslaw16_SpanJustifies.j0, Bool.false_eq_true, if_false]
  by_cases h : (justS i m d u).2.2.2.2 = 0
  · refine Ev.pos h ?_
    obtain ⟨h1, h2, h3, h4, h5, h6⟩ := just_law h
    have hc : Ev (fun k => span_Cmp.f k i m d u (justS i m d u).1 (justS i m d u).2.1 (justS i m d u).2.2.1 (justS i m d u).2.2.2.1) 0 := by
      refine Ev.cast (cmpS_ev _ _ _ _ _ _ _ _ hu (sok_i64 h2).2.2.2) ?_
      unfold cmpS
      rw [if_pos ⟨h1, h2⟩, h3, h4, sgn_eq rfl, if_pos rfl, sgn_eq rfl]
    generalize justS i m d u = r at *
    obtain ⟨i', m', d', u', e'⟩ := r
    simp only at *
    by_cases g1 : m' > 0
    · have s := h5 (.inl g1)
      refine Ev.pos g1 (Ev.neg (by omega) (Ev.neg (by omega) (Ev.bind hc (Ev.pos rfl (Ev.neg (by omega) known_end)))))
    · refine Ev.neg g1 ?_
      by_cases g2 : d' > 0
      · have s := h5 (.inr g2)
        refine Ev.pos g2 (Ev.neg (by omega) (Ev.neg (by omega) (Ev.bind hc (Ev.pos rfl (Ev.neg (by omega) known_end)))))
      · refine Ev.neg g2 ?_
        by_cases g3 : m' < 0
        · have s := h6 (.inl g3)
          refine Ev.pos g3 (Ev.bind hc (Ev.pos rfl (Ev.neg (by omega) known_end)))
        · refine Ev.neg g3 ?_
          by_cases g4 : d' < 0
          · have s := h6 (.inr g4)
            refine Ev.pos g4 (Ev.bind hc (Ev.pos rfl (Ev.neg (by omega) known_end)))
          · refine Ev.neg g4 (Ev.bind hc (Ev.pos rfl ?_))
            by_cases g5 : u' > 0
            · exact Ev.pos g5 (Ev.neg (by omega) known_end)
            · exact Ev.neg g5 known_end
  · exact Ev.neg h known_end
end Go.Proofs.Ytfpclhkieccojaa.Pure
