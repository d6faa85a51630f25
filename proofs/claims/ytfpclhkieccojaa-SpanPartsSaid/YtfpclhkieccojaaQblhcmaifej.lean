/- SpanParts: an interval is its parts together; less itself it is none. -/
import Derived.Test.YtfpclhkieccojaaQjafjcfinoc
import Derived.Test.YtfpclhkieccojaaQeafcmfchom
import Derived.Test.YtfpclhkieccojaaQpelcfgfige
import Derived.Test.YtfpclhkieccojaaQhndhnmlajo
import Derived.Test.YtfpclhkieccojaaQfibmdljcim
import Derived.Test.YtfpclhkieccojaaQkbhclkdcne
import Derived.Test.YtfpclhkieccojaaQdejfcklgoc
import Derived.Test.YtfpclhkieccojaaQgnpffaanid
import Derived.Test.YtfpclhkieccojaaQjdhaoogbfm
import Derived.Test.YtfpclhkieccojaaQbhlffekofa
import Derived.Test.YtfpclhkieccojaaQebgjdhbohj
import Derived.Test.YtfpclhkieccojaaQpjkdnoafhf
import Derived.Test.YtfpclhkieccojaaQenbkkgehmc
namespace Go.Proofs.Ytfpclhkieccojaa.Pure
set_option linter.unusedVariables false
set_option linter.unusedSimpArgs false
open Go.RowKit Go.Proofs.Ytfpclhkieccojaa.P Go.Proofs.YtfpclhkieccojaaW.PrintWords Go.Proofs.YtfpclhkieccojaaW.PrintLast Go.Proofs.Ytfpclhkieccojaa.Civ
theorem add_fin {m d u n e v : Int} (h1 : SOk 0 m d u) (h2 : SOk 0 n e v) (h3 : SOk 0 (m + n) (d + e) (u + v)) : addS 0 m d u 0 n e v = sp 0 (m + n) (d + e) (u + v) := by
  unfold addS
  rw [if_pos ⟨h1, h2⟩, if_neg (by omega), if_pos rfl, if_pos rfl]
  exact if_pos h3
theorem SpanParts : computuslaw16_SpanParts.Pure := by
  intro i m d u hi _ _ hu
  have hi := i64_of_wf hi
  have hu := i64_of_wf hu
  have z64 : I64 0 := by unfold I64; omega
  refine Ev.rounds ?_
  unfold computuslaw16_SpanParts.f
  refine Ev.bind0 (rright_eq i m d u) ?_
  by_cases h : SOk i m d u
  · refine Ev.pos (decide_eq_true h) ?_
    refine Ev.succ ?_
    by_cases g : i = 0
    · subst g
      have e0 : ((0 : Int) != 0) = false := rfl
      simp only [computuslaw16_SpanParts.j0, e0, Bool.false_eq_true, if_false]
      have h1 : SOk 0 m 0 0 := by unfold SOk at *; omega
      have h2 : SOk 0 0 d 0 := by unfold SOk at *; omega
      have h3 : SOk 0 m d 0 := by unfold SOk at *; omega
      have h4 : SOk 0 0 0 u := by unfold SOk at *; omega
      have h5 : SOk 0 0 0 0 := by unfold SOk at *; omega
      have a1 : addS 0 m 0 0 0 0 d 0 = sp 0 m d 0 := by
        have := add_fin h1 h2 (by simpa using h3)
        simpa using this
      have a2 : addS 0 0 0 u 0 m d 0 = sp 0 m d u := by
        have := add_fin h4 h3 (by simpa using h)
        simpa using this
      have a3 : mkS m d u = sp 0 m d u := if_pos h
      have a4 : subS 0 m d u 0 m d u = sp 0 0 0 0 := by
        unfold subS
        rw [if_pos h]
        have n0 : (-0 : Int) = 0 := rfl
        rw [n0]
        have hn : SOk 0 (-m) (-d) (-u) := by unfold SOk at *; omega
        have z1 : m + -m = 0 := by omega
        have z2 : d + -d = 0 := by omega
        have z3 : u + -u = 0 := by omega
        have := add_fin h hn (by rw [z1, z2, z3]; exact h5)
        rw [z1, z2, z3] at this
        exact this
      refine Ev.bind (addS_ev _ _ _ _ _ _ _ _ z64 z64 z64 z64) ?_
      rw [a1]
      refine Ev.bind (addS_ev 0 0 0 u 0 m d 0 z64 z64 hu z64) ?_
      rw [a2]
      refine Ev.bind0 (make_eq m d u hu) ?_
      rw [a3]
      refine Ev.bind (subS_ev 0 m d u 0 m d u z64 hu hu) ?_
      rw [a4]
      refine Ev.pos rfl (Ev.pos rfl (Ev.pos rfl (Ev.pos rfl ?_)))
      simp only [sp, beq_self_eq_true, Bool.and_self, if_true]
      exact known_end
    · have e0 : (i != 0) = true := bne_iff_ne.2 g
      simp only [computuslaw16_SpanParts.j0, e0, if_true]
      exact known_end
  · refine Ev.neg (by rw [decide_eq_false h]; simp) ?_
    refine Ev.succ ?_
    simp only [computuslaw16_SpanParts.j0, if_true]
    exact known_end
end Go.Proofs.Ytfpclhkieccojaa.Pure
