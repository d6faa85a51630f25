/- Dates so many months on: their order, and back again. -/
import Derived.Test.YtjdoafjpdnfmdaaBase
import Derived.Test.YtjdoafjpdnfmdaaCivMath
import Derived.Test.YtjdoafjpdnfmdaaCivFns
import Derived.Test.YtjdoafjpdnfmdaaPx0
import Derived.Test.YtjdoafjpdnfmdaaPx3
namespace Go.Proofs.Ytjdoafjpdnfmdaa.Civ
set_option linter.unusedVariables false
set_option linter.unusedSimpArgs false
open Go.RowKit Go.Proofs.Ytjdoafjpdnfmdaa.P Go.Proofs.YtjdoafjpdnfmdaaW.PrintWords Go.Proofs.YtjdoafjpdnfmdaaW.PrintLast
/-- The day x is the day n so many months on. -/
def Shifted (n q x : Int) : Prop := CanDay n ∧ MonthsOk q ∧ CanDay x ∧ ∃ y m d, IsDate n y m d ∧ IsDate x (shY y m q) (shM y m q) (shD y m d q)
theorem shifted_date {n y m d q : Int} (h : IsDate n y m d) (g : DateOk (shY y m q) (shM y m q) (shD y m d q)) : IsDate (dnum (shY y m q) (shM y m q) (shD y m d q)) (shY y m q) (shM y m q) (shD y m d q) := by
  unfold DateOk at g
  exact ⟨by omega, by omega, by omega, by omega, rfl⟩
theorem shift_cases (n q : Int) : (∃ x, (∀ k, civil_Shift.f (k + 1) n q = some (x, 0)) ∧ Shifted n q x) ∨ (∀ k, civil_Shift.f (k + 1) n q = some (0, 10)) := by
  by_cases hc : CanDay n
  · by_cases hk : MonthsOk q
    · obtain ⟨y, m, d, h⟩ := date_of n
      have e := shift_eq h hc hk
      by_cases g : DateOk (shY y m q) (shM y m q) (shD y m d q)
      · simp only [if_pos g] at e
        have h' := shifted_date h g
        exact .inl ⟨_, e, hc, hk, (can_of_year h').2 ⟨g.1, g.2.1⟩, y, m, d, h, h'⟩
      · simp only [if_neg g] at e
        exact .inr e
    · exact .inr fun k => shift_no (.inr hk) k
  · exact .inr fun k => shift_no (.inl hc) k
theorem shifted_mono {a b q x y : Int} (h : Shifted a q x) (k : Shifted b q y) (hab : a ≤ b) : x ≤ y := by
  obtain ⟨_, _, _, y1, m1, d1, h1, h2⟩ := h
  obtain ⟨_, _, _, y2, m2, d2, k1, k2⟩ := k
  have hle := h1.le_of k1 hab
  have a1 := h1.m1; have a2 := h1.m12; have b1 := k1.m1; have b2 := k1.m12
  refine h2.lt_of k2 ?_
  by_cases hs : 12 * y1 + m1 - 1 + q = 12 * y2 + m2 - 1 + q
  · have e1 : shY y1 m1 q = shY y2 m2 q := by unfold shY; rw [hs]
    have e2 : shM y1 m1 q = shM y2 m2 q := by unfold shM; rw [hs]
    refine .inr ⟨e1, .inr ⟨e2, ?_⟩⟩
    unfold shD
    rw [e1, e2]
    have : d1 ≤ d2 := by omega
    split <;> split <;> omega
  · unfold shY shM
    omega
theorem shift_zero {n : Int} (hc : CanDay n) (k : Nat) : civil_Shift.f (k + 1) n 0 = some (n, 0) := by
  obtain ⟨y, m, d, h⟩ := date_of n
  have h1 := h.m1; have h2 := h.m12; have h3 := h.d1; have h4 := h.dl; have h5 := h.num
  have hy := (can_of_year h).1 hc
  rw [shift_eq h hc (by unfold MonthsOk; omega)]
  have e1 : shY y m 0 = y := by unfold shY; omega
  have e2 : shM y m 0 = m := by unfold shM; omega
  have e3 : shD y m d 0 = d := by unfold shD; rw [e1, e2, if_neg (by omega)]
  rw [e1, e2, e3, if_pos ⟨hy.1, hy.2, h1, h2, h3, h4⟩, h5]
theorem shift_back {n q x y m d : Int} (h : Shifted n q x) (hd : IsDate n y m d) (h28 : d ≤ 28) (k : Nat) : civil_Shift.f (k + 1) x (-q) = some (n, 0) := by
  obtain ⟨hc, hq, hx, y1, m1, d1, h1, h2⟩ := h
  obtain ⟨rfl, rfl, rfl⟩ := hd.unique h1
  have a1 := hd.m1; have a2 := hd.m12; have a3 := hd.d1; have a4 := hd.dl; have a5 := hd.num
  have hy := (can_of_year hd).1 hc
  have hb := mlen_bd (shY y m q) (shM y m q) h2.m1 h2.m12
  have e0 : shD y m d q = d := by unfold shD; rw [if_neg (by omega)]
  rw [e0] at h2
  unfold MonthsOk at hq
  rw [shift_eq h2 hx (by unfold MonthsOk; omega)]
  have e1 : shY (shY y m q) (shM y m q) (-q) = y := by unfold shY shM; omega
  have e2 : shM (shY y m q) (shM y m q) (-q) = m := by unfold shY shM; omega
  have e3 : shD (shY y m q) (shM y m q) d (-q) = d := by unfold shD; rw [e1, e2, if_neg (by omega)]
  rw [e1, e2, e3, if_pos ⟨hy.1, hy.2, a1, a2, a3, a4⟩, a5]
end Go.Proofs.Ytjdoafjpdnfmdaa.Civ
