/- CivilBack: a date that can be is that of its day, and the next day is the next date and weekday; for every 64-bit number. -/
import Derived.Test.YtjdoafjpdnfmdaaBase
import Derived.Test.YtjdoafjpdnfmdaaCivMath
import Derived.Test.YtjdoafjpdnfmdaaCivFns
import Derived.Test.YtjdoafjpdnfmdaaCivRef
import Derived.Test.YtjdoafjpdnfmdaaCivKnown
import Derived.Test.YtjdoafjpdnfmdaaPx0
import Derived.Test.YtjdoafjpdnfmdaaPx3
import Derived.Test.YtjdoafjpdnfmdaaPx7
namespace Go.Proofs.Ytjdoafjpdnfmdaa.Pure
set_option linter.unusedVariables false
set_option linter.unusedSimpArgs false
open Go.RowKit Go.Proofs.Ytjdoafjpdnfmdaa.P Go.Proofs.YtjdoafjpdnfmdaaW.PrintWords Go.Proofs.YtjdoafjpdnfmdaaW.PrintLast Go.Proofs.Ytjdoafjpdnfmdaa.Civ
/-- The next day's date. -/
theorem next_date {n y m d : Int} (h : IsDate n y m d) :
    (d < mlen y m ∧ IsDate (n + 1) y m (d + 1)) ∨ (d = mlen y m ∧ m < 12 ∧ IsDate (n + 1) y (m + 1) 1) ∨ (d = 31 ∧ m = 12 ∧ IsDate (n + 1) (y + 1) 1 1) := by
  have h1 := h.m1; have h2 := h.m12; have h3 := h.d1; have h4 := h.dl; have h5 := h.num
  unfold dnum at h5
  rcases Int.lt_or_le d (mlen y m) with g | g
  · exact .inl ⟨g, h1, h2, by omega, by omega, by unfold dnum; omega⟩
  · have e : d = mlen y m := by omega
    rcases Int.lt_or_le m 12 with g2 | g2
    · have hc := cum_succ y m h1 h2
      have hb := mlen_bd y (m + 1) (by omega) (by omega)
      exact .inr (.inl ⟨e, g2, by omega, by omega, by omega, by omega, by unfold dnum; omega⟩)
    · have e2 : m = 12 := by omega
      subst e2
      have hl : mlen y 12 = 31 := by simp [mlen]
      have hc : cum y 12 = 334 + lp y := by simp [cum]
      have hs := dby_succ y
      exact .inr (.inr ⟨by omega, rfl, by omega, by omega, by omega, by simp [mlen], by unfold dnum; rw [cum_one]; omega⟩)
theorem CivilBack : computuslaw02_CivilBack.Pure := by
  intro n hn
  refine Ev.rounds ?_
  unfold computuslaw02_CivilBack.f
  obtain ⟨y, m, d, h⟩ := date_of n
  by_cases hc : CanDay n
  · have hy := (can_of_year h).1 hc
    have h1 := h.m1; have h2 := h.m12; have h3 := h.d1; have h4 := h.dl
    have hok : DateOk y m d := ⟨hy.1, hy.2, h1, h2, h3, h4⟩
    rw [date_eq h hc]
    simp only [Option.bind_some, if_true]
    rw [days_eq, right_eq, if_pos hok, decide_eq_true hok, h.num]
    simp only [Option.bind_some, if_true, Bool.not_true]
    have hc' := hc
    unfold CanDay at hc'
    have hup := mlen_up y m
    have w1 : wrap64 (n + 1) = n + 1 := w64 (by omega) (by omega)
    have w2 : wrap64 (d + 1) = d + 1 := w64 (by omega) (by omega)
    have w3 : wrap64 (m + 1) = m + 1 := w64 (by omega) (by omega)
    have w4 : wrap64 (y + 1) = y + 1 := w64 (by omega) (by omega)
    have hw : Int.tmod (wrap64 (wday n + 1)) 7 = wday (n + 1) := by
      have := wday_bd n
      rw [w64 (by omega) (by omega), tm_pos (by omega)]; unfold wday; omega
    have hwd : civil_Weekday.f n = some (wday n) := weekday_eq n (by unfold I64; omega)
    have hwd1 : civil_Weekday.f (n + 1) = some (wday (n + 1)) := weekday_eq (n + 1) (by unfold I64; omega)
    by_cases hc1 : CanDay (n + 1)
    · rcases next_date h with ⟨g, h'⟩ | ⟨g, g2, h'⟩ | ⟨g, g2, h'⟩
      · have e := date_eq h' hc1
        refine Ev.step (f := fun k => (computuslaw02_known.f k).bind fun t => some t) (fun k => ?_) known_end
        simp only [computuslaw02_CivilBack.j0, w1, w2, w3, w4, e, hwd, hwd1, Option.bind_some, hw, if_true]
        simp
      · have e := date_eq h' hc1
        refine Ev.step (f := fun k => (computuslaw02_known.f k).bind fun t => some t) (fun k => ?_) known_end
        have n1 : ¬ m + 1 = m := by omega
        simp only [computuslaw02_CivilBack.j0, w1, w2, w3, w4, e, hwd, hwd1, Option.bind_some, hw, if_true, len_eq, if_neg n1, if_pos g]
        simp
      · have e := date_eq h' hc1
        refine Ev.step (f := fun k => (computuslaw02_known.f k).bind fun t => some t) (fun k => ?_) known_end
        have n1 : ¬ y + 1 = y := by omega
        simp only [computuslaw02_CivilBack.j0, w1, w2, w3, w4, e, hwd, hwd1, Option.bind_some, hw, if_true, len_eq, if_neg n1, if_pos g, if_pos g2]
        simp
    · have e := date_no hc1
      have hlast : n = 106754173 := by unfold CanDay at hc1; omega
      refine Ev.step (f := fun k => (computuslaw02_known.f k).bind fun t => some t) (fun k => ?_) known_end
      simp only [computuslaw02_CivilBack.j0, w1, e, Option.bind_some, lastday_eq, if_pos hlast]
      simp
  · rw [date_no hc]
    simp only [Option.bind_some]
    refine Ev.bind (rcan_ev n) ?_
    simp only [decide_eq_false hc]
    exact known_end
end Go.Proofs.Ytjdoafjpdnfmdaa.Pure
