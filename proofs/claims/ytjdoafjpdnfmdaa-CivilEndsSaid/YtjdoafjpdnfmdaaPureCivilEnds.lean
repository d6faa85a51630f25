/- CivilEnds: the last day of a year is its 365th or 366th, and the next one the first of the next year; a month's first day less one is the last one of the month ahead; for every input of 64-bit numbers. -/
import Derived.Test.YtjdoafjpdnfmdaaBase
import Derived.Test.YtjdoafjpdnfmdaaCivMath
import Derived.Test.YtjdoafjpdnfmdaaCivFns
import Derived.Test.YtjdoafjpdnfmdaaCivKnown
import Derived.Test.YtjdoafjpdnfmdaaPx0
import Derived.Test.YtjdoafjpdnfmdaaPx10
import Derived.Test.YtjdoafjpdnfmdaaPx3
namespace Go.Proofs.Ytjdoafjpdnfmdaa.Pure
set_option linter.unusedVariables false
set_option linter.unusedSimpArgs false
open Go.RowKit Go.Proofs.Ytjdoafjpdnfmdaa.P Go.Proofs.YtjdoafjpdnfmdaaW.PrintWords Go.Proofs.YtjdoafjpdnfmdaaW.PrintLast Go.Proofs.Ytjdoafjpdnfmdaa.Civ
theorem ends_first (y m : Int) (hy : -4718 ≤ y ∧ y < 294282) (h1 : 1 ≤ m) (h2 : m ≤ 12) : Ev (fun k => computuslaw02_CivilEnds.j2 k y m false) true := by
  have hb := mlen_bd y m h1 h2
  have hok : DateOk y m 1 := ⟨by omega, by omega, h1, h2, by omega, by omega⟩
  have hd : IsDate (dnum y m 1) y m 1 := ⟨h1, h2, by omega, by omega, rfl⟩
  have hcd := (can_of_year hd).2 ⟨by omega, by omega⟩
  unfold CanDay at hcd
  refine Ev.step (f := fun k => (computuslaw02_known.f k).bind fun t => some t) (fun k => ?_) known_end
  have w1 : wrap64 (dnum y m 1 - 1) = dnum y m 1 - 1 := w64 (by omega) (by omega)
  have w2 : wrap64 (m - 1) = m - 1 := w64 (by omega) (by omega)
  have w3 : wrap64 (y - 1) = y - 1 := w64 (by omega) (by omega)
  simp only [computuslaw02_CivilEnds.j2, days_eq, if_pos hok, Option.bind_some, w1, w2, w3, len_eq]
  by_cases hm : m = 1
  · subst hm
    have hs := dby_succ (y - 1)
    rw [show y - 1 + 1 = y by omega] at hs
    have hl : mlen (y - 1) 12 = 31 := by simp [mlen]
    have hp : IsDate (dnum y 1 1 - 1) (y - 1) 12 31 := ⟨by omega, by omega, by omega, by omega, by simp [dnum, cum]; omega⟩
    by_cases hc : CanDay (dnum y 1 1 - 1)
    · rw [date_eq hp hc]
      simp [hl]
    · rw [date_no hc]
      have : y = -4718 := by
        have := (not_congr (can_of_year hp)).1 hc
        omega
      simp [this]
  · have hs := cum_succ y (m - 1) (by omega) (by omega)
    rw [show m - 1 + 1 = m by omega] at hs
    have hb2 := mlen_bd y (m - 1) (by omega) (by omega)
    have hp : IsDate (dnum y m 1 - 1) y (m - 1) (mlen y (m - 1)) := ⟨by omega, by omega, by omega, by omega, by unfold dnum; omega⟩
    have hc := (can_of_year hp).2 ⟨by omega, by omega⟩
    rw [date_eq hp hc]
    simp
theorem CivilEnds : computuslaw02_CivilEnds.Pure := by
  intro y m _ _
  refine Ev.rounds ?_
  unfold computuslaw02_CivilEnds.f
  have stop : Ev (fun k => computuslaw02_CivilEnds.j0 k y m true) true := Ev.step (f := fun k => (computuslaw02_known.f k).bind fun t => some t) (fun k => by simp only [computuslaw02_CivilEnds.j0, if_true]) known_end
  by_cases a1 : y < -4718
  · simp only [if_pos a1]; exact stop
  simp only [if_neg a1]
  by_cases a2 : y ≥ 294282
  · simp only [if_pos a2]; exact stop
  simp only [if_neg a2]
  by_cases a3 : m < 1
  · simp only [if_pos a3]; exact stop
  simp only [if_neg a3]
  by_cases a4 : m > 12
  · simp only [decide_eq_true a4]; exact stop
  simp only [decide_eq_false a4]
  have hs := dby_succ y
  have hl := lp_01 y
  have hm : mlen y 12 = 31 := by simp [mlen]
  have hcum : cum y 12 = 334 + lp y := by simp [cum]
  have hok : DateOk y 12 31 := ⟨by omega, by omega, by omega, by omega, by omega, by omega⟩
  have hd : IsDate (dnum y 12 31) y 12 31 := ⟨by omega, by omega, by omega, by omega, rfl⟩
  have hn : IsDate (dnum y 12 31 + 1) (y + 1) 1 1 := ⟨by omega, by omega, by omega, by simp [mlen], by unfold dnum; rw [cum_one]; omega⟩
  have hc := (can_of_year hd).2 ⟨by omega, by omega⟩
  have hc2 := (can_of_year hn).2 ⟨by omega, by omega⟩
  have w1 : wrap64 (dnum y 12 31 + 1) = dnum y 12 31 + 1 := by unfold CanDay at hc; exact w64 (by omega) (by omega)
  have e1 : dnum y 12 31 - dby y + 1 = 365 + lp y := by unfold dnum; omega
  have e2 : dnum y 12 31 + 1 - dby (y + 1) + 1 = 1 := by unfold dnum; omega
  refine Ev.step (f := fun k => computuslaw02_CivilEnds.j1 k y m 0 (365 + lp y) 0 1 0 (365 + lp y)) (fun k => ?_) (Ev.step (f := fun k => computuslaw02_CivilEnds.j2 k y m false) (fun k => ?_) (ends_first y m (by omega) (by omega) (by omega)))
  · simp only [computuslaw02_CivilEnds.j0, days_eq, if_pos hok, Option.bind_some, yearday_eq hd hc, w1, yearday_eq hn hc2, leap_eq, e1, e2, decide_eq_true_eq]
    rw [if_neg (by simp)]
    by_cases hp : lp y = 1
    · rw [if_pos hp, hp]; rfl
    · rw [if_neg hp, show lp y = 0 by omega]; rfl
  · simp only [computuslaw02_CivilEnds.j1, if_true]
    rfl
end Go.Proofs.Ytjdoafjpdnfmdaa.Pure
