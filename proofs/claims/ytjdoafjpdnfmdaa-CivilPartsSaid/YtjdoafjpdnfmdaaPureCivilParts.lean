/- CivilParts: the weeks of a year are 52 or 53, its days 365 or 366, and the same weekday comes again behind seven days; for every 64-bit number. -/
import Derived.Test.YtjdoafjpdnfmdaaBase
import Derived.Test.YtjdoafjpdnfmdaaCivMath
import Derived.Test.YtjdoafjpdnfmdaaCivFns
import Derived.Test.YtjdoafjpdnfmdaaCivKnown
import Derived.Test.YtjdoafjpdnfmdaaPx0
import Derived.Test.YtjdoafjpdnfmdaaPx3
import Derived.Test.YtjdoafjpdnfmdaaPx8
import Derived.Test.YtjdoafjpdnfmdaaPx9
namespace Go.Proofs.Ytjdoafjpdnfmdaa.Pure
set_option linter.unusedVariables false
set_option linter.unusedSimpArgs false
open Go.RowKit Go.Proofs.Ytjdoafjpdnfmdaa.P Go.Proofs.YtjdoafjpdnfmdaaW.PrintWords Go.Proofs.YtjdoafjpdnfmdaaW.PrintLast Go.Proofs.Ytjdoafjpdnfmdaa.Civ
theorem count_eq (a b : Int) (hb : 0 < b) (hb2 : b ≤ 4611686018427387904) : computusref01_Count.f a b = some (a % b) := by
  have c := cut_floor a (b := b) (by omega)
  have h1 := Int.emod_nonneg a (b := b) (by omega)
  have h2 := Int.emod_lt_of_pos a (b := b) (by omega)
  unfold computusref01_Count.f
  rw [if_neg (by omega), if_neg (by omega)]
  by_cases h : Int.tmod a b < 0
  · obtain ⟨c1, c2, _⟩ := c.1 h
    rw [if_pos h, c2, w64 (by omega) (by omega)]
    congr 1; omega
  · obtain ⟨c1, c2⟩ := c.2 h
    rw [if_neg h, c2]
theorem CivilParts : computuslaw02_CivilParts.Pure := by
  intro q _
  refine Ev.rounds ?_
  unfold computuslaw02_CivilParts.f
  rw [firstday_eq, count_eq _ _ (by omega) (by omega)]
  simp only [Option.bind_some]
  rw [w64 (by omega) (by omega)]
  have hn : ∃ n, -2453698 + q % 100000000 = n := ⟨_, rfl⟩
  obtain ⟨n, hn⟩ := hn
  rw [hn]
  have hb : -2453698 ≤ n ∧ n ≤ 97546302 := by omega
  clear hn
  have hc : CanDay n := by unfold CanDay; omega
  obtain ⟨y, m, d, h⟩ := date_of n
  obtain ⟨y', m', d', h'⟩ := date_of (thurs n)
  have b1 := h.year
  have b2 := dby_succ y
  have b3 := lp_01 y
  have c1 := h'.year
  have c2 := dby_succ y'
  have c3 := lp_01 y'
  rw [yearday_eq h hc, week_eq h' hc]
  simp only [Option.bind_some, if_true]
  refine Ev.step (f := fun k => (computuslaw02_known.f k).bind fun t => some t) (fun k => ?_) known_end
  have e1 : civil_Weekday.f n = some (wday n) := weekday_eq n (by unfold I64; omega)
  have e2 : civil_Weekday.f (wrap64 (n + 7)) = some (wday n) := by
    rw [w64 (by omega) (by omega), weekday_eq _ (by unfold I64; omega)]
    congr 1; unfold wday; omega
  simp only [computuslaw02_CivilParts.j0, bne_self_eq_false, date_eq h hc, leap_eq, e1, e2, Option.bind_some, decide_eq_true_eq, if_true]
  rw [if_neg (by simp)]
  by_cases hp : lp y = 1
  · rw [if_pos hp, if_pos (by omega), if_pos (by omega), if_pos (by omega), if_pos (by omega)]
  · rw [if_neg hp, if_pos (by omega), if_pos (by omega), if_pos (by omega), if_pos (by omega)]
end Go.Proofs.Ytjdoafjpdnfmdaa.Pure
