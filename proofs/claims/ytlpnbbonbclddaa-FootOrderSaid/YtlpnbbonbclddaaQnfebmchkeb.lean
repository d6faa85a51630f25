/- Plain facts on the days of the Gregorian calendar: a date's day, leap years, months; no program in sight. -/
namespace Go.Proofs.Ytlpnbbonbclddaa.Civ
set_option linter.unusedVariables false
set_option linter.unusedSimpArgs false
/-- One if a year is a leap year. -/
def lp (y : Int) : Int := if y % 4 = 0 ∧ (y % 100 ≠ 0 ∨ y % 400 = 0) then 1 else 0
theorem lp_01 (y : Int) : 0 ≤ lp y ∧ lp y ≤ 1 := by unfold lp; split <;> omega
/-- Days from January 1, 2000 to January 1 of a year. -/
def dby (y : Int) : Int := 365 * (y - 2000) + (y - 1) / 4 - (y - 1) / 100 + (y - 1) / 400 - 484
theorem dby_succ (y : Int) : dby (y + 1) = dby y + 365 + lp y := by
  unfold dby lp; split <;> omega
theorem dby_era (y k : Int) : dby (y + 400 * k) = dby y + 146097 * k := by unfold dby; omega
/-- Between two years there are 365 days at least for each year. -/
theorem dby_far (a b : Int) (h : a ≤ b) : dby a + 365 * (b - a) ≤ dby b := by unfold dby; omega
/-- How many days a month has. -/
def mlen (y m : Int) : Int := if m < 1 ∨ 12 < m then 0 else if m = 2 then 28 + lp y else if m = 4 ∨ m = 6 ∨ m = 9 ∨ m = 11 then 30 else 31
/-- Days of a year ahead of a month. -/
def cum (y m : Int) : Int :=
  if m ≤ 1 then 0 else if m = 2 then 31 else
  (if m = 3 then 59 else if m = 4 then 90 else if m = 5 then 120 else if m = 6 then 151 else if m = 7 then 181 else if m = 8 then 212 else if m = 9 then 243 else if m = 10 then 273 else if m = 11 then 304 else if m = 12 then 334 else 365) + lp y
theorem twelve {m : Int} (h1 : 1 ≤ m) (h2 : m ≤ 12) : m = 1 ∨ m = 2 ∨ m = 3 ∨ m = 4 ∨ m = 5 ∨ m = 6 ∨ m = 7 ∨ m = 8 ∨ m = 9 ∨ m = 10 ∨ m = 11 ∨ m = 12 := by omega
theorem mlen_bd (y m : Int) (h1 : 1 ≤ m) (h2 : m ≤ 12) : 28 ≤ mlen y m ∧ mlen y m ≤ 31 := by
  have hl := lp_01 y
  rcases twelve h1 h2 with e | e | e | e | e | e | e | e | e | e | e | e <;> subst e <;> simp [mlen] <;> omega
theorem mlen_out (y m : Int) (h : m < 1 ∨ 12 < m) : mlen y m = 0 := by unfold mlen; rw [if_pos h]
theorem mlen_up (y m : Int) : 0 ≤ mlen y m ∧ mlen y m ≤ 31 := by
  by_cases h : m < 1 ∨ 12 < m
  · rw [mlen_out y m h]; omega
  · have := mlen_bd y m (by omega) (by omega); omega
/-- A date's day. -/
def dnum (y m d : Int) : Int := dby y + cum y m + d - 1
/-- Each day has a date. -/
theorem year_of (n : Int) : ∃ y, dby y ≤ n ∧ n < dby (y + 1) := by
  -- of a day of the first 400 years behind 2000
  have base : ∀ k : Nat, ∀ n : Int, 0 ≤ n → n < dby (2000 + k) → ∃ y, 2000 ≤ y ∧ dby y ≤ n ∧ n < dby (y + 1) := by
    intro k
    induction k with
    | zero => intro n h0 h; exfalso; have : dby (2000 + ((0 : Nat) : Int)) = 0 := by decide
              omega
    | succ k ih =>
      intro n h0 h
      by_cases g : n < dby (2000 + k)
      · exact ih n h0 g
      · exact ⟨2000 + k, by omega, by omega, by have e : (2000 + ((k + 1 : Nat) : Int)) = 2000 + k + 1 := by omega
                                                rw [e] at h; exact h⟩
  obtain ⟨y, _, h1, h2⟩ := base 400 (n % 146097) (by omega) (by have : dby (2000 + ((400 : Nat) : Int)) = 146097 := by decide
                                                                omega)
  refine ⟨y + 400 * (n / 146097), ?_, ?_⟩
  · rw [dby_era]; omega
  · rw [show y + 400 * (n / 146097) + 1 = (y + 1) + 400 * (n / 146097) by omega, dby_era]; omega
end Go.Proofs.Ytlpnbbonbclddaa.Civ
