/- SeriesInts: the numbers that follow each other, and how many there are. -/
import Derived.Test.YteceeoaabmbckaaQgbpkefpolb
import Derived.Test.YteceeoaabmbckaaQdboclfmcoc
import Derived.Test.YteceeoaabmbckaaQlnmfplnpif
import Derived.Test.YteceeoaabmbckaaQgpippedcej
import Derived.Test.YteceeoaabmbckaaQbpcjcioeem
import Derived.Test.YteceeoaabmbckaaQkcobomebid
import Derived.Test.YteceeoaabmbckaaQmenacjjhmp
import Derived.Test.YteceeoaabmbckaaQjbfgkmmajm
import Derived.Test.YteceeoaabmbckaaQnfimnniaco
import Derived.Test.YteceeoaabmbckaaQogdbhampda
import Derived.Test.YteceeoaabmbckaaQhemaieamak
namespace Go.Proofs.Yteceeoaabmbckaa.Pure
set_option linter.unusedVariables false
set_option linter.unusedSimpArgs false
open Go.RowKit Go.Proofs.Yteceeoaabmbckaa.P Go.Proofs.YteceeoaabmbckaaW.PrintWords Go.Proofs.YteceeoaabmbckaaW.PrintLast Go.Proofs.Yteceeoaabmbckaa.Civ
theorem knownI : computuslaw21_known.f = some true := rfl
theorem intsR_facts {a b s m : Int} : (intsR a b s m).1.length ≤ 1000 ∧ ((intsR a b s m).2 = 0 → (cntR a b s).2 = 0 ∧ (cntR a b s).1 = ((intsR a b s m).1.length : Int)) := by
  unfold intsR cntR
  by_cases h1 : m < 0 ∨ m > 1000
  · rw [if_pos h1]; exact ⟨by simp, fun h => by cases h⟩
  · rw [if_neg h1]
    by_cases h2 : s = 0
    · rw [if_pos h2]; exact ⟨by simp, fun h => by cases h⟩
    · rw [if_neg h2, if_neg h2]
      have hc := cntS_nonneg a b s h2
      by_cases h3 : cntS a b s > m
      · rw [if_pos h3]; exact ⟨by simp, fun h => by cases h⟩
      · rw [if_neg h3, if_pos (by omega)]
        simp only [ints_length]
        exact ⟨by omega, fun _ => ⟨trivial, by omega⟩⟩
theorem ints_end {l : List Int} (hl : l.length ≤ 1000) (e n g : Int) : Ev (fun k => computuslaw21_SeriesInts.j0 k l e l e n g n g false) true := by
  refine Ev.succ ?_
  simp only [computuslaw21_SeriesInts.j0, Bool.false_eq_true, if_false]
  refine Ev.bind (same_ev hl) (Ev.pos rfl (Ev.pos trivial (Ev.pos trivial (Ev.pos trivial ?_))))
  rw [knownI]
  exact Ev.now _
theorem SeriesInts : computuslaw21_SeriesInts.Pure := by
  intro a b s m ha hb hs _
  have ha := i64_of_wf ha
  have hb := i64_of_wf hb
  have hs := i64_of_wf hs
  refine Ev.rounds ?_
  unfold computuslaw21_SeriesInts.f
  have F := intsR_facts (a := a) (b := b) (s := s) (m := m)
  refine Ev.bind (ints_ev ha hb hs) (Ev.bind (rints_ev ha hb hs) (Ev.bind (Ev.at1 fun k => count_eq k ha hb hs) (Ev.bind (rcount_ev ha hb hs) ?_)))
  generalize intsR a b s m = R at *
  generalize cntR a b s = C at *
  by_cases h : R.2 = 0
  · obtain ⟨h1, h2⟩ := F.2 h
    refine Ev.pos h (Ev.pos h1 ?_)
    have e : (C.1 != IntKind.u64.wrap (R.1.length : Int)) = false := by
      rw [h2, u64w (by omega) (by have := F.1; omega)]; simp
    rw [e]
    exact ints_end F.1 _ _ _
  · exact Ev.neg h (ints_end F.1 _ _ _)
end Go.Proofs.Yteceeoaabmbckaa.Pure
