/- Plain facts on the days of the Gregorian calendar: a date's day, leap years, months; no program in sight. -/
import Derived.Test.YtimgphlfaninnaaGreatQhgbbdhmaba
import Derived.Test.YtimgphlfaninnaaGreatQngfoghndhl
import Derived.Test.YtimgphlfaninnaaGreatQaabilhhiep
import Derived.Test.YtimgphlfaninnaaGreatQgomobcgpci
import Derived.Test.YtimgphlfaninnaaGreatQfbjmledhdb
import Derived.Test.YtimgphlfaninnaaGreatQnkbfebbbcm
namespace Go.Proofs.YtimgphlfaninnaaGreat.Civ
set_option linter.unusedVariables false
set_option linter.unusedSimpArgs false
/-- One if a year is a leap year. -/
def lp (y : Int) : Int := if y % 4 = 0 ∧ (y % 100 ≠ 0 ∨ y % 400 = 0) then 1 else 0
theorem lp_01 (y : Int) : 0 ≤ lp y ∧ lp y ≤ 1 := by unfold lp; split <;> omega
/-- Days from January 1, 2000 to January 1 of a year. -/
def dby (y : Int) : Int := 365 * (y - 2000) + (y - 1) / 4 - (y - 1) / 100 + (y - 1) / 400 - 484
theorem dby_succ (y : Int) : dby (y + 1) = dby y + 365 + lp y := by
  unfold dby lp; split <;> omega
theorem dby_era (y k : Int) : dby (y + 400 * k) = dby y + 146097 * k := by unfold dby; omega
/-- Between two years there are 365 days at least for each year. -/
theorem dby_far (a b : Int) (h : a ≤ b) : dby a + 365 * (b - a) ≤ dby b := by unfold dby; omega
theorem dby_near (a b : Int) (h : a ≤ b) : dby b ≤ dby a + 366 * (b - a) := by unfold dby; omega
theorem year_unique {a b n : Int} (h1 : dby a ≤ n) (h2 : n < dby (a + 1)) (h3 : dby b ≤ n) (h4 : n < dby (b + 1)) : a = b := by
  rcases Int.lt_trichotomy a b with h | h | h
  · have := dby_far (a + 1) b (by omega); omega
  · exact h
  · have := dby_far (b + 1) a (by omega); omega
/-- How many days a month has. -/
def mlen (y m : Int) : Int := if m < 1 ∨ 12 < m then 0 else if m = 2 then 28 + lp y else if m = 4 ∨ m = 6 ∨ m = 9 ∨ m = 11 then 30 else 31
/-- Days of a year ahead of a month. -/
def cum (y m : Int) : Int :=
  if m ≤ 1 then 0 else if m = 2 then 31 else
  (if m = 3 then 59 else if m = 4 then 90 else if m = 5 then 120 else if m = 6 then 151 else if m = 7 then 181 else if m = 8 then 212 else if m = 9 then 243 else if m = 10 then 273 else if m = 11 then 304 else if m = 12 then 334 else 365) + lp y
theorem twelve {m : Int} (h1 : 1 ≤ m) (h2 : m ≤ 12) : m = 1 ∨ m = 2 ∨ m = 3 ∨ m = 4 ∨ m = 5 ∨ m = 6 ∨ m = 7 ∨ m = 8 ∨ m = 9 ∨ m = 10 ∨ m = 11 ∨ m = 12 := by omega
theorem cum_succ (y m : Int) (h1 : 1 ≤ m) (h2 : m ≤ 12) : cum y (m + 1) = cum y m + mlen y m := by
  have hl := lp_01 y
  rcases twelve h1 h2 with e | e | e | e | e | e | e | e | e | e | e | e <;> subst e <;> simp [cum, mlen] <;> omega
theorem cum_end (y m : Int) (h : 12 < m) : cum y m = 365 + lp y := by
  unfold cum
  rw [if_neg (by omega), if_neg (by omega), if_neg (by omega), if_neg (by omega), if_neg (by omega), if_neg (by omega), if_neg (by omega), if_neg (by omega), if_neg (by omega), if_neg (by omega), if_neg (by omega), if_neg (by omega)]
theorem cum_one (y : Int) : cum y 1 = 0 := rfl
theorem mlen_bd (y m : Int) (h1 : 1 ≤ m) (h2 : m ≤ 12) : 28 ≤ mlen y m ∧ mlen y m ≤ 31 := by
  have hl := lp_01 y
  rcases twelve h1 h2 with e | e | e | e | e | e | e | e | e | e | e | e <;> subst e <;> simp [mlen] <;> omega
theorem mlen_out (y m : Int) (h : m < 1 ∨ 12 < m) : mlen y m = 0 := by unfold mlen; rw [if_pos h]
theorem mlen_up (y m : Int) : 0 ≤ mlen y m ∧ mlen y m ≤ 31 := by
  by_cases h : m < 1 ∨ 12 < m
  · rw [mlen_out y m h]; omega
  · have := mlen_bd y m (by omega) (by omega); omega
theorem cum_step (y a b : Int) (h1 : 1 ≤ a) (h : a < b) (h2 : b ≤ 12) : cum y a + mlen y a ≤ cum y b := by
  have hl := lp_01 y
  rcases twelve h1 (by omega) with e | e | e | e | e | e | e | e | e | e | e | e <;> subst e <;>
  rcases twelve (by omega) h2 with e | e | e | e | e | e | e | e | e | e | e | e <;> subst e <;> simp [cum, mlen] <;> omega
theorem cum_bd (y m : Int) (h1 : 1 ≤ m) (h2 : m ≤ 12) : 0 ≤ cum y m ∧ cum y m + mlen y m ≤ 365 + lp y := by
  have hl := lp_01 y
  rcases twelve h1 h2 with e | e | e | e | e | e | e | e | e | e | e | e <;> subst e <;> simp [cum, mlen] <;> omega
/-- A date's day. -/
def dnum (y m d : Int) : Int := dby y + cum y m + d - 1
/-- A day is that of a date. -/
structure IsDate (n y m d : Int) : Prop where
  m1 : 1 ≤ m
  m12 : m ≤ 12
  d1 : 1 ≤ d
  dl : d ≤ mlen y m
  num : dnum y m d = n
theorem IsDate.year {n y m d : Int} (h : IsDate n y m d) : dby y ≤ n ∧ n < dby (y + 1) := by
  have hs := dby_succ y
  have hc := cum_bd y m h.m1 h.m12
  have h1 := h.d1
  have h2 := h.dl
  have h3 := h.num
  unfold dnum at h3
  omega
theorem IsDate.unique {n y m d y' m' d' : Int} (h : IsDate n y m d) (k : IsDate n y' m' d') : y = y' ∧ m = m' ∧ d = d' := by
  have hy := h.year
  have ky := k.year
  have e : y = y' := year_unique hy.1 hy.2 ky.1 ky.2
  subst e
  have h1 := h.d1; have h2 := h.dl; have h3 := h.num; have h4 := h.m1; have h5 := h.m12
  have k1 := k.d1; have k2 := k.dl; have k3 := k.num; have k4 := k.m1; have k5 := k.m12
  unfold dnum at h3 k3
  rcases Int.lt_trichotomy m m' with hm | hm | hm
  · have := cum_step y m m' h4 hm k5; omega
  · subst hm; exact ⟨rfl, rfl, by omega⟩
  · have := cum_step y m' m k4 hm h5; omega
/-- The order of days is that of dates. -/
theorem IsDate.le_of {n y m d n' y' m' d' : Int} (h : IsDate n y m d) (k : IsDate n' y' m' d') (hle : n ≤ n') : y < y' ∨ y = y' ∧ (m < m' ∨ m = m' ∧ d ≤ d') := by
  have hy := h.year
  have ky := k.year
  rcases Int.lt_trichotomy y y' with e | e | e
  · exact .inl e
  · subst e
    refine .inr ⟨rfl, ?_⟩
    have h1 := h.d1; have h2 := h.dl; have h3 := h.num; have h4 := h.m1; have h5 := h.m12
    have k1 := k.d1; have k2 := k.dl; have k3 := k.num; have k4 := k.m1; have k5 := k.m12
    unfold dnum at h3 k3
    rcases Int.lt_trichotomy m m' with hm | hm | hm
    · exact .inl hm
    · subst hm; exact .inr ⟨rfl, by omega⟩
    · have := cum_step y m' m k4 hm h5; omega
  · have := dby_far (y' + 1) y (by omega); omega
/-- Each day has a date. -/
theorem year_of (n : Int) : ∃ y, dby y ≤ n ∧ n < dby (y + 1) := by
  -- of a day of the first 400 years behind 2000
  have base : ∀ k : Nat, ∀ n : Int, 0 ≤ n → n < dby (2000 + k) → ∃ y, 2000 ≤ y ∧ dby y ≤ n ∧ n < dby (y + 1) := by
    intro k
    induction k with
    | zero => intro n h0 h; exfalso; have : dby (2000 + ((0 : Nat) : Int)) = 0 := by decide
              omega
    | succ k ih =>
      intro n h0 h
      by_cases g : n < dby (2000 + k)
      · exact ih n h0 g
      · exact ⟨2000 + k, by omega, by omega, by have e : (2000 + ((k + 1 : Nat) : Int)) = 2000 + k + 1 := by omega
                                                rw [e] at h; exact h⟩
  obtain ⟨y, _, h1, h2⟩ := base 400 (n % 146097) (by omega) (by have : dby (2000 + ((400 : Nat) : Int)) = 146097 := by decide
                                                                omega)
  refine ⟨y + 400 * (n / 146097), ?_, ?_⟩
  · rw [dby_era]; omega
  · rw [show y + 400 * (n / 146097) + 1 = (y + 1) + 400 * (n / 146097) by omega, dby_era]; omega
theorem month_of (y left : Int) (h0 : 0 ≤ left) (h1 : left < 365 + lp y) : ∃ m, 1 ≤ m ∧ m ≤ 12 ∧ cum y m ≤ left ∧ left < cum y m + mlen y m := by
  have key : ∀ k : Nat, k ≤ 12 → left < cum y (1 + k) → ∃ m, 1 ≤ m ∧ m ≤ 12 ∧ cum y m ≤ left ∧ left < cum y m + mlen y m := by
    intro k
    induction k with
    | zero => intro _ h; exfalso; have : cum y (1 + ((0 : Nat) : Int)) = 0 := rfl
              omega
    | succ k ih =>
      intro hk h
      by_cases g : left < cum y (1 + k)
      · exact ih (by omega) g
      · refine ⟨1 + k, by omega, by omega, by omega, ?_⟩
        rw [← cum_succ y (1 + k) (by omega) (by omega), show (1 + (k : Int) + 1) = 1 + ((k + 1 : Nat) : Int) by omega]; exact h
  refine key 12 (by omega) ?_
  rw [cum_end y _ (by omega)]; exact h1
theorem date_of (n : Int) : ∃ y m d, IsDate n y m d := by
  obtain ⟨y, h1, h2⟩ := year_of n
  have hs := dby_succ y
  obtain ⟨m, a, b, c, e⟩ := month_of y (n - dby y) (by omega) (by omega)
  exact ⟨y, m, n - dby y - cum y m + 1, a, b, by omega, by omega, by unfold dnum; omega⟩
/-- The days that can be: those of the years -4718 to 294282. -/
def CanDay (n : Int) : Prop := -2453698 ≤ n ∧ n ≤ 106754173
theorem dby_first : dby (-4718) = -2453698 := by decide
theorem dby_last : dby 294283 = 106754174 := by decide
theorem can_of_year {n y m d : Int} (h : IsDate n y m d) : CanDay n ↔ -4718 ≤ y ∧ y ≤ 294282 := by
  have hy := h.year
  have f := dby_first
  have l := dby_last
  unfold CanDay
  constructor
  · rintro ⟨h1, h2⟩
    constructor
    · rcases Int.lt_or_le y (-4718) with g | g
      · have := dby_far (y + 1) (-4718) (by omega); omega
      · exact g
    · rcases Int.lt_or_le 294282 y with g | g
      · have := dby_far 294283 y (by omega); omega
      · exact g
  · rintro ⟨h1, h2⟩
    have a := dby_far (-4718) y h1
    have b := dby_far (y + 1) 294283 (by omega)
    omega
end Go.Proofs.YtimgphlfaninnaaGreat.Civ
namespace Go.Proofs.YtimgphlfaninnaaGreat.Civ
set_option linter.unusedVariables false
set_option linter.unusedSimpArgs false
open Go.RowKit Go.Proofs.YtimgphlfaninnaaGreatW.PrintWords Go.Proofs.YtimgphlfaninnaaGreatW.PrintLast Go.Proofs.YtimgphlfaninnaaGreatW.PrintMore Go.Proofs.YtimgphlfaninnaaGreat.P
theorem floor_eq (a b : Int) (ha : I64 a) (hb : 1 < b) (hb2 : b ≤ 4611686018427387904) : civil_floor.f a b = some (a / b, a % b) := by
  have c := cut_floor a (b := b) (by omega)
  have q := ediv_i64 (b := b) ha (by omega)
  have h1 := Int.emod_nonneg a (b := b) (by omega)
  have h2 := Int.emod_lt_of_pos a (b := b) (by omega)
  unfold civil_floor.f
  rw [if_neg (by omega)]
  by_cases h : Int.tmod a b < 0
  · obtain ⟨c1, c2, _⟩ := c.1 h
    rw [if_pos h, c1, c2]
    have q2 : a / b + 1 ≤ 9223372036854775807 := by
      have : a / b ≤ 4611686018427387904 := by
        rcases Int.lt_or_le a 0 with g | g
        · have : a / b < 0 := Int.ediv_lt_of_lt_mul (by omega) (by omega)
          omega
        · have := Int.ediv_le_ediv (c := 2) (by omega) ha.2
          have h3 : a / b ≤ a / 2 := by
            rw [Int.le_ediv_iff_mul_le (by omega)]
            have e := Int.mul_ediv_add_emod a b
            have h4 := Int.emod_nonneg a (b := b) (by omega)
            have h5 : 0 ≤ a / b := Int.ediv_nonneg g (by omega)
            have h6 : a / b * 2 ≤ a / b * b := Int.mul_le_mul_of_nonneg_left (by omega) h5
            rw [Int.mul_comm b] at e
            omega
          omega
      omega
    rw [w64 (x := a / b + 1) (by omega) (by omega), w64 (by omega) (by omega), w64 (by omega) (by omega)]
    congr 2 <;> omega
  · obtain ⟨c1, c2⟩ := c.2 h
    rw [if_neg h, c1, c2, w64 q.1 q.2]
theorem leap_eq (y : Int) : civil_Leap.f y = some (decide (lp y = 1)) := by
  unfold civil_Leap.f lp
  simp only [tmod_zero_iff y (b := 4) (by omega), tmod_zero_iff y (b := 100) (by omega)]
  have e : (Int.tmod y 400 == 0) = decide (y % 400 = 0) := by
    have := tmod_zero_iff y (b := 400) (by omega)
    by_cases h : y % 400 = 0
    · rw [decide_eq_true h, beq_iff_eq.2 (this.2 h)]
    · rw [decide_eq_false h, beq_eq_false_iff_ne.2 (fun g => h (this.1 g))]
  rw [e]
  by_cases h1 : y % 4 = 0
  · rw [if_pos h1]
    by_cases h2 : y % 100 = 0
    · rw [if_pos h2]
      by_cases h3 : y % 400 = 0 <;> simp [h1, h2, h3]
    · rw [if_neg h2]; simp [h1, h2]
  · rw [if_neg h1]; simp [h1]
theorem len_eq (y m : Int) : civil_Len.f y m = some (mlen y m) := by
  have hl := lp_01 y
  unfold civil_Len.f
  by_cases h1 : m < 1
  · rw [if_pos h1, mlen_out y m (by omega)]
  · rw [if_neg h1]
    by_cases h2 : m > 12
    · rw [if_pos h2, mlen_out y m (by omega)]
    · rw [if_neg h2]
      rcases twelve (m := m) (by omega) (by omega) with e | e | e | e | e | e | e | e | e | e | e | e <;> subst e <;> simp [mlen, civil_Len.t, leap_eq]
      by_cases h3 : lp y = 1
      · rw [if_pos h3, h3]; rfl
      · rw [if_neg h3, show lp y = 0 by omega]; rfl
/-- A date that can be. -/
def DateOk (y m d : Int) : Prop := -4718 ≤ y ∧ y ≤ 294282 ∧ 1 ≤ m ∧ m ≤ 12 ∧ 1 ≤ d ∧ d ≤ mlen y m
instance (y m d : Int) : Decidable (DateOk y m d) := inferInstanceAs (Decidable (_ ∧ _))
theorem right_eq (y m d : Int) : civil_Right.f y m d = some (decide (DateOk y m d)) := by
  have hl := mlen_up y m
  unfold civil_Right.f
  by_cases h1 : y ≥ -4718
  · rw [if_pos h1]
    by_cases h2 : y ≤ 294282
    · rw [if_pos h2]
      by_cases h3 : d ≥ 1
      · rw [if_pos h3, len_eq]
        simp only [Option.bind_some]
        have : decide (d ≤ mlen y m) = decide (DateOk y m d) := by
          apply decide_eq_decide.2
          unfold DateOk
          constructor
          · intro h
            rcases Int.lt_or_le m 1 with g | g
            · rw [mlen_out y m (by omega)] at h; omega
            · rcases Int.lt_or_le 12 m with g2 | g2
              · rw [mlen_out y m (by omega)] at h; omega
              · omega
          · omega
        rw [this]
      · rw [if_neg h3, decide_eq_false (by unfold DateOk; omega)]
    · rw [if_neg h2, decide_eq_false (by unfold DateOk; omega)]
  · rw [if_neg h1, decide_eq_false (by unfold DateOk; omega)]
theorem era_eq (y : Int) : y / 400 * 146097 + y % 400 * 365 + y % 400 / 4 - y % 400 / 100 = 365 * y + y / 4 - y / 100 + y / 400 := by omega
theorem day_eq (y m d : Int) (h1 : 1 ≤ m) (h2 : m ≤ 12) (hy : -2000000 ≤ y) (hy2 : y ≤ 2000000) (hd : -100 ≤ d) (hd2 : d ≤ 100) : civil_day.f y m d = some (dnum y m d) := by
  have hl := lp_01 y
  unfold civil_day.f
  by_cases hm : m ≤ 2
  · rw [if_pos hm, w64 (x := y - 1) (by omega) (by omega), floor_eq _ _ (by unfold I64; omega) (by omega) (by omega)]
    simp only [Option.bind_some]
    simp (disch := omega) only [w64, td_pos]
    have e := era_eq (y - 1)
    congr 1
    unfold dnum dby
    rcases (by omega : m = 1 ∨ m = 2) with e | e <;> subst e <;> simp [cum] <;> omega
  · rw [if_neg hm, floor_eq _ _ (by unfold I64; omega) (by omega) (by omega)]
    simp only [Option.bind_some]
    simp (disch := omega) only [w64, td_pos]
    have e := era_eq y
    have e2 := dby_succ y
    have e3 : dby (y + 1) = 365 * (y - 1999) + y / 4 - y / 100 + y / 400 - 484 := by unfold dby; omega
    congr 1
    unfold dnum
    have : cum y m = (153 * (m - 3) + 2) / 5 + 59 + lp y := by
      rcases (by omega : m = 3 ∨ m = 4 ∨ m = 5 ∨ m = 6 ∨ m = 7 ∨ m = 8 ∨ m = 9 ∨ m = 10 ∨ m = 11 ∨ m = 12) with e | e | e | e | e | e | e | e | e | e <;> subst e <;> simp [cum]
    omega
theorem days_eq (y m d : Int) : civil_Days.f y m d = some (if DateOk y m d then (dnum y m d, 0) else (0, 10)) := by
  unfold civil_Days.f
  rw [right_eq]
  simp only [Option.bind_some, decide_eq_true_eq]
  by_cases h : DateOk y m d
  · have hl := mlen_up y m
    have h' := h
    unfold DateOk at h'
    rw [if_pos h, if_pos h, day_eq y m d (by omega) (by omega) (by omega) (by omega) (by omega) (by omega)]
    rfl
  · rw [if_neg h, if_neg h]
theorem firstday_eq : civil_First.f = some (-2453698) := by
  unfold civil_First.f
  rw [day_eq _ _ _ (by omega) (by omega) (by omega) (by omega) (by omega) (by omega)]
  rfl
theorem lastday_eq : civil_Last.f = some 106754173 := by
  unfold civil_Last.f
  rw [day_eq _ _ _ (by omega) (by omega) (by omega) (by omega) (by omega) (by omega)]
  rfl
instance (n : Int) : Decidable (CanDay n) := inferInstanceAs (Decidable (_ ∧ _))
theorem can_eq (n : Int) : civil_can.f n = some (decide (CanDay n)) := by
  unfold civil_can.f
  rw [firstday_eq]
  simp only [Option.bind_some]
  by_cases h : n ≥ -2453698
  · rw [if_pos h, lastday_eq]
    simp only [Option.bind_some]
    congr 1
    apply decide_eq_decide.2
    unfold CanDay
    omega
  · rw [if_neg h, decide_eq_false (by unfold CanDay; omega)]
theorem march {n e c f k r : Int} (hc : 0 ≤ c ∧ c ≤ 3) (hf : 0 ≤ f ∧ f ≤ 24) (hk : 0 ≤ k ∧ k ≤ 3) (hn : n + 730425 = 146097 * e + 36524 * c + 1461 * f + 365 * k + r) :
    dby (400 * e + 100 * c + 4 * f + k + 1) = n + 306 - r := by unfold dby; omega
theorem march_leap {e c f : Int} (hc : 0 ≤ c ∧ c ≤ 3) (hf : 0 ≤ f ∧ f ≤ 24) (h : f < 24 ∨ c = 3) : lp (400 * e + 100 * c + 4 * f + 3 + 1) = 1 := by
  unfold lp; rw [if_pos (by omega)]
theorem parts_eq {n y m d : Int} (h : IsDate n y m d) (hb : -2000000000 ≤ n ∧ n ≤ 2000000000) : civil_parts.f n = some (y, m, d) := by
  unfold civil_parts.f
  rw [w64 (x := n + 730425) (by omega) (by omega), floor_eq _ _ (by unfold I64; omega) (by omega) (by omega)]
  simp only [Option.bind_some]
  have hn : n + 730425 = 146097 * ((n + 730425) / 146097) + (n + 730425) % 146097 := by omega
  have h0 : 0 ≤ (n + 730425) % 146097 ∧ (n + 730425) % 146097 < 146097 := by omega
  have he : -20000 ≤ (n + 730425) / 146097 ∧ (n + 730425) / 146097 ≤ 20000 := by omega
  generalize (n + 730425) / 146097 = e at *
  generalize (n + 730425) % 146097 = r0 at *
  rw [td_pos (a := r0) h0.1, w64 (x := r0 / 36524) (by omega) (by omega)]
  have hc : 0 ≤ mn (r0 / 36524) 3 ∧ mn (r0 / 36524) 3 ≤ 3 ∧ 0 ≤ r0 - mn (r0 / 36524) 3 * 36524 ∧ r0 - mn (r0 / 36524) 3 * 36524 ≤ 36524 ∧ (r0 - mn (r0 / 36524) 3 * 36524 = 36524 → mn (r0 / 36524) 3 = 3) := by
    unfold mn; split <;> omega
  generalize mn (r0 / 36524) 3 = c at *
  obtain ⟨hc0, hc1, hc2, hc3, hc4⟩ := hc
  rw [w64 (x := c * 36524) (by omega) (by omega), w64 (x := r0 - c * 36524) (by omega) (by omega)]
  obtain ⟨r1, hr1⟩ : ∃ r1, r1 = r0 - c * 36524 := ⟨_, rfl⟩
  rw [← hr1] at hc2 hc3 hc4 ⊢
  rw [td_pos (a := r1) hc2, w64 (x := r1 / 1461) (by omega) (by omega)]
  have hf : 0 ≤ r1 / 1461 ∧ r1 / 1461 ≤ 24 ∧ 0 ≤ r1 - r1 / 1461 * 1461 ∧ r1 - r1 / 1461 * 1461 ≤ 1460 ∧ (r1 - r1 / 1461 * 1461 = 1460 → r1 / 1461 < 24 ∨ c = 3) := by omega
  generalize r1 / 1461 = f at *
  obtain ⟨hf0, hf1, hf2, hf3, hf4⟩ := hf
  rw [w64 (x := f * 1461) (by omega) (by omega), w64 (x := r1 - f * 1461) (by omega) (by omega)]
  obtain ⟨r2, hr2⟩ : ∃ r2, r2 = r1 - f * 1461 := ⟨_, rfl⟩
  rw [← hr2] at hf2 hf3 hf4 ⊢
  rw [td_pos (a := r2) hf2, w64 (x := r2 / 365) (by omega) (by omega)]
  have hk : 0 ≤ mn (r2 / 365) 3 ∧ mn (r2 / 365) 3 ≤ 3 ∧ 0 ≤ r2 - mn (r2 / 365) 3 * 365 ∧ (r2 - mn (r2 / 365) 3 * 365 ≤ 364 ∨ r2 - mn (r2 / 365) 3 * 365 = 365 ∧ r2 = 1460 ∧ mn (r2 / 365) 3 = 3) := by
    unfold mn; split <;> omega
  generalize mn (r2 / 365) 3 = k at *
  obtain ⟨hk0, hk1, hk2, hk3⟩ := hk
  rw [w64 (x := k * 365) (by omega) (by omega), w64 (x := r2 - k * 365) (by omega) (by omega)]
  obtain ⟨r3, hr3⟩ : ∃ r3, r3 = r2 - k * 365 := ⟨_, rfl⟩
  rw [← hr3] at hk2 hk3 ⊢
  have hn' : n + 730425 = 146097 * e + 36524 * c + 1461 * f + 365 * k + r3 := by omega
  have hY := march ⟨hc0, hc1⟩ ⟨hf0, hf1⟩ ⟨hk0, hk1⟩ hn'
  have hL : r3 = 365 → lp (400 * e + 100 * c + 4 * f + k + 1) = 1 := by
    intro hr
    have e1 : k = 3 := by omega
    subst e1
    exact march_leap ⟨hc0, hc1⟩ ⟨hf0, hf1⟩ (by omega)
  have hlb := lp_01 (400 * e + 100 * c + 4 * f + k + 1)
  have hY2 := dby_succ (400 * e + 100 * c + 4 * f + k)
  have h365 : r3 ≤ 365 := by omega
  clear hr1 hr2 hr3 hn' hn hk3 hf4 hc4
  rw [w64 (x := 5 * r3) (by omega) (by omega), w64 (x := 5 * r3 + 2) (by omega) (by omega), td_pos (a := 5 * r3 + 2) (by omega), w64 (x := (5 * r3 + 2) / 153) (by omega) (by omega)]
  have hm : 0 ≤ (5 * r3 + 2) / 153 ∧ (5 * r3 + 2) / 153 ≤ 11 ∧ 153 * ((5 * r3 + 2) / 153) ≤ 5 * r3 + 2 ∧ 5 * r3 + 2 < 153 * ((5 * r3 + 2) / 153) + 153 := by omega
  generalize (5 * r3 + 2) / 153 = m' at *
  obtain ⟨hm0, hm1, hm2, hm3⟩ := hm
  rw [w64 (x := e * 400) (by omega) (by omega), w64 (x := c * 100) (by omega) (by omega), w64 (x := f * 4) (by omega) (by omega), w64 (x := e * 400 + c * 100) (by omega) (by omega), w64 (x := e * 400 + c * 100 + f * 4) (by omega) (by omega), w64 (x := e * 400 + c * 100 + f * 4 + k) (by omega) (by omega)]
  rw [w64 (x := 153 * m') (by omega) (by omega), w64 (x := 153 * m' + 2) (by omega) (by omega), td_pos (a := 153 * m' + 2) (by omega), w64 (x := (153 * m' + 2) / 5) (by omega) (by omega), w64 (x := r3 - (153 * m' + 2) / 5) (by omega) (by omega), w64 (x := r3 - (153 * m' + 2) / 5 + 1) (by omega) (by omega)]
  have ey : e * 400 + c * 100 + f * 4 + k = 400 * e + 100 * c + 4 * f + k := by omega
  rw [ey]
  have hyb : -9000000 ≤ 400 * e + 100 * c + 4 * f + k ∧ 400 * e + 100 * c + 4 * f + k ≤ 9000000 := by omega
  clear ey hc0 hc1 hc2 hc3 hf0 hf1 hf2 hf3 hk0 hk1 he h0
  generalize 400 * e + 100 * c + 4 * f + k = Y at *
  by_cases hge : m' ≥ 10
  · rw [if_pos hge, w64 (x := Y + 1) (by omega) (by omega), w64 (x := m' - 9) (by omega) (by omega)]
    have key : IsDate n (Y + 1) (m' - 9) (r3 - (153 * m' + 2) / 5 + 1) := by
      rcases (by omega : m' = 10 ∨ m' = 11) with e1 | e1 <;> subst e1
      · exact ⟨by omega, by omega, by omega, by simp [mlen]; omega, by simp [dnum, cum]; omega⟩
      · refine ⟨by omega, by omega, by omega, ?_, by simp [dnum, cum]; omega⟩
        simp only [mlen]
        by_cases g : r3 = 365
        · rw [hL g, g]; decide
        · rw [if_neg (by omega), if_pos (by omega)]; omega
    obtain ⟨rfl, rfl, rfl⟩ := h.unique key
    rfl
  · rw [if_neg hge, w64 (x := m' + 3) (by omega) (by omega)]
    have key : IsDate n Y (m' + 3) (r3 - (153 * m' + 2) / 5 + 1) := by
      rcases (by omega : m' = 0 ∨ m' = 1 ∨ m' = 2 ∨ m' = 3 ∨ m' = 4 ∨ m' = 5 ∨ m' = 6 ∨ m' = 7 ∨ m' = 8 ∨ m' = 9) with e1 | e1 | e1 | e1 | e1 | e1 | e1 | e1 | e1 | e1 <;> subst e1 <;>
        exact ⟨by omega, by omega, by omega, by simp [mlen]; omega, by simp [dnum, cum]; omega⟩
    obtain ⟨rfl, rfl, rfl⟩ := h.unique key
    rfl
theorem date_eq {n y m d : Int} (h : IsDate n y m d) (hc : CanDay n) : civil_Date.f n = some (y, m, d, 0) := by
  unfold civil_Date.f
  rw [can_eq]
  simp only [Option.bind_some, decide_eq_true_eq]
  have hc' := hc
  unfold CanDay at hc'
  rw [if_pos hc, parts_eq h (by omega)]
  rfl
theorem date_no {n : Int} (hc : ¬ CanDay n) : civil_Date.f n = some (0, 0, 0, 10) := by
  unfold civil_Date.f
  rw [can_eq]
  simp only [Option.bind_some, decide_eq_true_eq]
  rw [if_neg hc]
/-- So many months on: the year and the month. -/
def shY (y m k : Int) : Int := (12 * y + m - 1 + k) / 12
def shM (y m k : Int) : Int := (12 * y + m - 1 + k) % 12 + 1
def shD (y m d k : Int) : Int := if mlen (shY y m k) (shM y m k) < d then mlen (shY y m k) (shM y m k) else d
theorem shM_bd (y m k : Int) : 1 ≤ shM y m k ∧ shM y m k ≤ 12 := by unfold shM; omega
def MonthsOk (k : Int) : Prop := -3600000 ≤ k ∧ k ≤ 3600000
instance (k : Int) : Decidable (MonthsOk k) := inferInstanceAs (Decidable (_ ∧ _))
theorem shift_eq {n y m d k : Int} (h : IsDate n y m d) (hc : CanDay n) (hk : MonthsOk k) (r : Nat) :
    civil_Shift.f (r + 1) n k = some (if DateOk (shY y m k) (shM y m k) (shD y m d k) then (dnum (shY y m k) (shM y m k) (shD y m d k), 0) else (0, 10)) := by
  have hc' := hc
  unfold CanDay at hc'
  unfold MonthsOk at hk
  have hy := (can_of_year h).1 hc
  have h1 := h.m1
  have h2 := h.m12
  unfold civil_Shift.f
  rw [can_eq]
  simp only [Option.bind_some, decide_eq_true_eq]
  rw [if_pos hc, if_neg (by omega), decide_eq_false (by omega)]
  simp only [civil_Shift.j0]
  rw [if_neg (by simp), parts_eq h (by omega)]
  simp only [Option.bind_some]
  rw [w64 (x := 12 * y) (by omega) (by omega), w64 (x := 12 * y + m) (by omega) (by omega), w64 (x := 12 * y + m - 1) (by omega) (by omega), w64 (x := 12 * y + m - 1 + k) (by omega) (by omega), floor_eq _ _ (by unfold I64; omega) (by omega) (by omega)]
  simp only [Option.bind_some]
  rw [w64 (x := (12 * y + m - 1 + k) % 12 + 1) (by omega) (by omega), len_eq]
  simp only [Option.bind_some]
  rw [days_eq]
  simp only [Option.bind_some]
  have e : mn d (mlen ((12 * y + m - 1 + k) / 12) ((12 * y + m - 1 + k) % 12 + 1)) = shD y m d k := rfl
  rw [e]
  rfl
theorem shift_no {n k : Int} (h : ¬ CanDay n ∨ ¬ MonthsOk k) (r : Nat) : civil_Shift.f (r + 1) n k = some (0, 10) := by
  unfold civil_Shift.f
  rw [can_eq]
  simp only [Option.bind_some, decide_eq_true_eq]
  by_cases hc : CanDay n
  · have hk := h.resolve_left (fun f => f hc)
    unfold MonthsOk at hk
    rw [if_pos hc]
    by_cases h1 : k > 3600000
    · rw [if_pos h1]; simp only [civil_Shift.j0]; rfl
    · rw [if_neg h1, decide_eq_true (by omega)]; simp only [civil_Shift.j0]; rfl
  · rw [if_neg hc]; simp only [civil_Shift.j0]; rfl
end Go.Proofs.YtimgphlfaninnaaGreat.Civ
namespace Go.Proofs.YtimgphlfaninnaaGreat.P
open Go.RowKit Go.Proofs.YtimgphlfaninnaaGreatW.PrintWords Go.Proofs.YtimgphlfaninnaaGreatW.PrintLast Go.Proofs.YtimgphlfaninnaaGreatW.PrintMore
open Go.Proofs.YtimgphlfaninnaaGreat.A
attribute [local go_sem] max2_int min2_int max_two min_two kM kL max_four min_four   -- for this text's walks alone
set_option linter.unusedVariables false
set_option linter.unusedSimpArgs false
def computusref15_made.f (k : Nat) (a0 : Int) (a1 : Int) : Option (Int × Int × Int) := if a1 = 0 then ((computusref15_inside.f k a0).bind fun t850 => (if t850 = true then (some (0, a0, 0)) else (some (0, 0, 10)))) else (some (0, 0, 10))
end Go.Proofs.YtimgphlfaninnaaGreat.P
namespace Go.Proofs.YtimgphlfaninnaaGreat.P
open Go.RowKit Go.Proofs.YtimgphlfaninnaaGreatW.PrintWords Go.Proofs.YtimgphlfaninnaaGreatW.PrintLast Go.Proofs.YtimgphlfaninnaaGreatW.PrintMore
open Go.Proofs.YtimgphlfaninnaaGreat.A
attribute [local go_sem] max2_int min2_int max_two min_two kM kL max_four min_four   -- for this text's walks alone
set_option linter.unusedVariables false
set_option linter.unusedSimpArgs false
def computusref02_Shift.j0 : Nat → Int → Int → Int → Int → Bool → Option (Int × Int)
  | 0, _, _, _, _, _ => none
  | k + 1, x1, x6, x7, x8, x27 => if x27 = true then (some (0, 10)) else ((computusref02_div.f (wrap64 ((wrap64 ((wrap64 ((wrap64 (12 * x6)) + x7)) - 1)) + x1)) 12).bind fun t855 => ((computusref02_mod.f (wrap64 ((wrap64 ((wrap64 ((wrap64 (12 * x6)) + x7)) - 1)) + x1)) 12).bind fun t856 => ((computusref02_Len.f k t855 (wrap64 (t856 + 1))).bind fun t857 => (if x8 > t857 then ((computusref02_Len.f k t855 (wrap64 (t856 + 1))).bind fun t858 => ((computusref02_Days.f k t855 (wrap64 (t856 + 1)) t858).bind fun bt859 => (some (bt859.1, bt859.2)))) else ((computusref02_Days.f k t855 (wrap64 (t856 + 1)) x8).bind fun bt861 => (some (bt861.1, bt861.2)))))))
def computusref02_Shift.f (k : Nat) (a0 : Int) (a1 : Int) : Option (Int × Int) := (computusref02_Date.f k a0).bind fun bt851 => (if bt851.2.2.2 = 0 then (if a1 > 3600000 then (computusref02_Shift.j0 k a1 bt851.1 bt851.2.1 bt851.2.2.1 true) else (computusref02_Shift.j0 k a1 bt851.1 bt851.2.1 bt851.2.2.1 (decide (a1 < (-3600000))))) else (computusref02_Shift.j0 k a1 bt851.1 bt851.2.1 bt851.2.2.1 true))
def computusref15_Shift.f (k : Nat) (a0_0 : Int) (a0_1 : Int) (a1 : Int) : Option (Int × Int × Int) := (computusref15_Right.f k a0_0 a0_1).bind fun t865 => (if t865 = true then (if a0_0 = 0 then ((computusref02_Shift.f k a0_1 a1).bind fun bt866 => ((computusref15_made.f k bt866.1 bt866.2).bind fun bt868 => (some (bt868.1, bt868.2.1, bt868.2.2)))) else (some (a0_0, a0_1, 0))) else (some (0, 0, 1)))
end Go.Proofs.YtimgphlfaninnaaGreat.P
namespace Go.Proofs.YtimgphlfaninnaaGreat.Civ
set_option linter.unusedVariables false
set_option linter.unusedSimpArgs false
open Go.RowKit Go.Proofs.YtimgphlfaninnaaGreatW.PrintWords Go.Proofs.YtimgphlfaninnaaGreatW.PrintLast Go.Proofs.YtimgphlfaninnaaGreatW.PrintMore Go.Proofs.YtimgphlfaninnaaGreat.P
theorem rmod_eq (a b : Int) (hb : 0 < b) (hb2 : b ≤ 4611686018427387904) : computusref02_mod.f a b = some (a % b) := by
  have c := cut_floor a (b := b) (by omega)
  have h1 := Int.emod_nonneg a (b := b) (by omega)
  have h2 := Int.emod_lt_of_pos a (b := b) (by omega)
  unfold computusref02_mod.f
  rw [if_neg (by omega)]
  by_cases h : Int.tmod a b < 0
  · obtain ⟨c1, c2, _⟩ := c.1 h
    rw [if_pos h, c2, w64 (by omega) (by omega)]
    congr 1; omega
  · obtain ⟨c1, c2⟩ := c.2 h
    rw [if_neg h, c2]
theorem rdiv_eq (a b : Int) (ha : I64 a) (hb : 1 < b) (hb2 : b ≤ 4611686018427387904) : computusref02_div.f a b = some (a / b) := by
  have e := floor_eq a b ha hb hb2
  unfold civil_floor.f at e
  unfold computusref02_div.f
  rw [if_neg (by omega)] at e ⊢
  by_cases h : Int.tmod a b < 0
  · rw [if_pos h] at e ⊢; injection e with e; injection e with e1 _; rw [e1]
  · rw [if_neg h] at e ⊢; injection e with e; injection e with e1 _; rw [e1]
theorem rleap_eq (y : Int) : computusref02_Leap.f y = some (decide (lp y = 1)) := by
  unfold computusref02_Leap.f
  rw [rmod_eq _ _ (by omega) (by omega), rmod_eq _ _ (by omega) (by omega), rmod_eq _ _ (by omega) (by omega)]
  simp only [Option.bind_some]
  have e : (y % 400 == 0) = decide (y % 400 = 0) := rfl
  rw [e]
  unfold lp
  by_cases h1 : y % 4 = 0
  · rw [if_pos h1]
    by_cases h2 : y % 100 = 0
    · rw [if_pos h2]
      by_cases h3 : y % 400 = 0 <;> simp [h1, h2, h3]
    · rw [if_neg h2]; simp [h1, h2]
  · rw [if_neg h1]; simp [h1]
theorem rlen_eq (k : Nat) (y m : Int) : computusref02_Len.f (k + 2) y m = some (mlen y m) := by
  have hl := lp_01 y
  by_cases h : m < 1 ∨ 12 < m
  · rw [mlen_out y m h]
    unfold computusref02_Len.f
    rw [if_neg (by omega), if_neg (by omega), if_neg (by omega), if_neg (by omega), if_neg (by omega), if_neg (by omega), beq_eq_false_iff_ne.2 (by omega : m ≠ 12)]
    simp only [computusref02_Len.j0]
    rw [if_neg (by simp), if_neg (by omega), if_neg (by omega), if_neg (by omega), beq_eq_false_iff_ne.2 (by omega : m ≠ 11)]
    simp only [computusref02_Len.j1]
    rw [if_neg (by simp), if_neg (by omega)]
  · rcases twelve (m := m) (by omega) (by omega) with e | e | e | e | e | e | e | e | e | e | e | e <;> subst e <;> simp [computusref02_Len.f, computusref02_Len.j0, computusref02_Len.j1, mlen, rleap_eq]
    by_cases h3 : lp y = 1
    · rw [if_pos h3, h3]; rfl
    · rw [if_neg h3, show lp y = 0 by omega]; rfl
theorem rlen_ev (y m : Int) : Ev (fun k => computusref02_Len.f k y m) (mlen y m) := Ev.at2 fun k => rlen_eq k y m
theorem rright_eq (k : Nat) (y m d : Int) : computusref02_Right.f (k + 2) y m d = some (decide (DateOk y m d)) := by
  unfold computusref02_Right.f
  rw [rlen_eq]
  by_cases h1 : y ≥ -4718
  · rw [if_pos h1]
    by_cases h2 : y ≤ 294282
    · rw [if_pos h2]
      by_cases h4 : m ≥ 1
      · rw [if_pos h4]
        by_cases h5 : m ≤ 12
        · rw [if_pos h5]
          by_cases h3 : d ≥ 1
          · rw [if_pos h3]
            simp only [Option.bind_some]
            congr 1
            apply decide_eq_decide.2
            unfold DateOk
            omega
          · rw [if_neg h3, decide_eq_false (by unfold DateOk; omega)]
        · rw [if_neg h5, decide_eq_false (by unfold DateOk; omega)]
      · rw [if_neg h4, decide_eq_false (by unfold DateOk; omega)]
    · rw [if_neg h2, decide_eq_false (by unfold DateOk; omega)]
  · rw [if_neg h1, decide_eq_false (by unfold DateOk; omega)]
theorem rright_ev (y m d : Int) : Ev (fun k => computusref02_Right.f k y m d) (decide (DateOk y m d)) := Ev.at2 fun k => rright_eq k y m d
theorem rstart_loop (y : Int) (hy : -100000000 ≤ y ∧ y ≤ 100000000) (d : Nat) : ∀ i n : Int, 0 ≤ i → i ≤ (y - 2000) % 400 → (y - 2000) % 400 - i = d → n = dby (2000 + i) + 146097 * ((y - 2000) / 400) →
    Ev (fun k => computusref02_start.l0 k y n i) (dby y) := by
  induction d with
  | zero =>
    intro i n h0 h1 hd hn
    refine Ev.at1 fun k => ?_
    simp only [computusref02_start.l0]
    rw [w64 (by omega) (by omega), rmod_eq _ _ (by omega) (by omega)]
    simp only [Option.bind_some]
    rw [if_neg (by omega)]
    congr 1
    rw [hn, ← dby_era, show 2000 + i + 400 * ((y - 2000) / 400) = y by omega]
  | succ d ih =>
    intro i n h0 h1 hd hn
    have hs := dby_succ (2000 + i)
    have hb : -1000000 ≤ dby (2000 + i) ∧ dby (2000 + i) ≤ 1000000 := by
      have a := dby_far 2000 (2000 + i) (by omega)
      have b := dby_near 2000 (2000 + i) (by omega)
      have c : dby 2000 = 0 := by decide
      omega
    have hl := lp_01 (2000 + i)
    refine Ev.step (f := fun k => computusref02_start.l0 k y (n + 365 + lp (2000 + i)) (i + 1)) (fun k => ?_) (ih (i + 1) _ (by omega) (by omega) (by omega) ?_)
    · simp only [computusref02_start.l0]
      rw [w64 (x := y - 2000) (by omega) (by omega), rmod_eq _ _ (by omega) (by omega)]
      simp only [Option.bind_some]
      rw [if_pos (by omega), w64 (x := 2000 + i) (by omega) (by omega), rleap_eq]
      simp only [Option.bind_some, decide_eq_true_eq]
      rw [w64 (x := i + 1) (by omega) (by omega), w64 (x := n + 365) (by omega) (by omega)]
      by_cases hp : lp (2000 + i) = 1
      · rw [if_pos hp, w64 (by omega) (by omega), hp]
      · rw [if_neg hp, show lp (2000 + i) = 0 by omega, Int.add_zero]
    · rw [show 2000 + (i + 1) = 2000 + i + 1 by omega, hs]; omega
theorem rstart_ev (y : Int) (hy : -100000000 ≤ y ∧ y ≤ 100000000) : Ev (fun k => computusref02_start.f k y) (dby y) := by
  unfold computusref02_start.f
  rw [w64 (by omega) (by omega), rdiv_eq _ _ (by unfold I64; omega) (by omega) (by omega)]
  simp only [Option.bind_some]
  refine rstart_loop y hy ((y - 2000) % 400).toNat 0 _ (by omega) (by omega) (by omega) ?_
  rw [w64 (by omega) (by omega)]
  have c : dby (2000 + 0) = 0 := by decide
  omega
theorem rday_loop (y m : Int) (hm : m ≤ 12) (d : Nat) : ∀ i n : Int, 1 ≤ i → i ≤ m → m - i = d → -1000000000000 ≤ n ∧ n ≤ 1000000000000 + 31 * i →
    Ev (fun k => computusref02_day.l0 k y m n i) (n + cum y m - cum y i) := by
  induction d with
  | zero =>
    intro i n h0 h1 hd hn
    refine Ev.at1 fun k => ?_
    simp only [computusref02_day.l0]
    rw [if_neg (by omega)]
    congr 1
    have : i = m := by omega
    subst this; omega
  | succ d ih =>
    intro i n h0 h1 hd hn
    have hc := cum_succ y i h0 (by omega)
    have hl := mlen_bd y i h0 (by omega)
    refine Ev.step (f := fun k => (computusref02_Len.f k y i).bind fun t => computusref02_day.l0 k y m (wrap64 (n + t)) (wrap64 (i + 1))) (fun k => ?_) (Ev.bind (rlen_ev y i) ?_)
    · simp only [computusref02_day.l0]
      rw [if_pos (by omega)]
    · rw [w64 (x := n + mlen y i) (by omega) (by omega), w64 (x := i + 1) (by omega) (by omega)]
      exact Ev.cast (ih (i + 1) _ (by omega) (by omega) (by omega) (by omega)) (by omega)
theorem dby_bd (y : Int) (hy : -100000000 ≤ y ∧ y ≤ 100000000) : -40000000000 ≤ dby y ∧ dby y ≤ 40000000000 := by
  have c : dby 2000 = 0 := by decide
  rcases Int.le_total y 2000 with h | h
  · have a := dby_far y 2000 h
    have b := dby_near y 2000 h
    omega
  · have a := dby_far 2000 y h
    have b := dby_near 2000 y h
    omega
theorem rday_ev (y m d : Int) (hy : -100000000 ≤ y ∧ y ≤ 100000000) (h1 : 1 ≤ m) (h2 : m ≤ 12) (hd : -1000 ≤ d ∧ d ≤ 1000) : Ev (fun k => computusref02_day.f k y m d) (dnum y m d) := by
  have hb := dby_bd y hy
  unfold computusref02_day.f
  refine Ev.bind (rstart_ev y hy) ?_
  rw [w64 (x := dby y + d) (by omega) (by omega), w64 (by omega) (by omega)]
  refine Ev.cast (rday_loop y m h2 (m - 1).toNat 1 _ (by omega) (by omega) (by omega) (by omega)) ?_
  unfold dnum
  rw [cum_one]; omega
theorem rfirst_ev : Ev (fun k => computusref02_First.f k) (-2453698) := by
  unfold computusref02_First.f
  exact Ev.bind (rday_ev _ _ _ (by omega) (by omega) (by omega) (by omega)) (Ev.now _)
theorem rlast_ev : Ev (fun k => computusref02_Last.f k) 106754173 := by
  unfold computusref02_Last.f
  exact Ev.bind (rday_ev _ _ _ (by omega) (by omega) (by omega) (by omega)) (Ev.now _)
theorem rcan_ev (n : Int) : Ev (fun k => computusref02_Can.f k n) (decide (CanDay n)) := by
  unfold computusref02_Can.f
  refine Ev.bind rfirst_ev ?_
  by_cases h : n ≥ -2453698
  · simp only [if_pos h]
    refine Ev.bind rlast_ev ?_
    have e : decide (n ≤ 106754173) = decide (CanDay n) := decide_eq_decide.2 (by unfold CanDay; omega)
    rw [e]; exact Ev.now _
  · simp only [if_neg h]
    rw [decide_eq_false (by unfold CanDay; omega : ¬ CanDay n)]; exact Ev.now _
theorem rdays_ev (y m d : Int) : Ev (fun k => computusref02_Days.f k y m d) (if DateOk y m d then (dnum y m d, 0) else (0, 10)) := by
  unfold computusref02_Days.f
  refine Ev.bind (rright_ev y m d) ?_
  simp only [decide_eq_true_eq]
  by_cases h : DateOk y m d
  · simp only [if_pos h]
    have hl := mlen_up y m
    unfold DateOk at h
    exact Ev.bind (rday_ev y m d (by omega) (by omega) (by omega) (by omega)) (Ev.now _)
  · simp only [if_neg h]; exact Ev.now _
theorem rdate_months (y : Int) (left : Int) (m d : Int) (h12 : m ≤ 12) (hd0 : 1 ≤ d) (hd1 : d ≤ mlen y m) (j : Nat) : ∀ i l : Int, 1 ≤ i → i ≤ m → m - i = j → l = cum y m + d - 1 - cum y i →
    Ev (fun k => computusref02_Date.l1 k y l i) (y, m, d, 0) := by
  induction j with
  | zero =>
    intro i l h0 h1 hj hl
    have e : i = m := by omega
    subst e
    refine Ev.step (f := fun k => (computusref02_Len.f k y i).bind fun t => if l ≥ t then (computusref02_Len.f k y i).bind fun t' => computusref02_Date.l1 k y (wrap64 (l - t')) (wrap64 (i + 1)) else some (y, i, wrap64 (l + 1), 0)) (fun k => by simp only [computusref02_Date.l1]) (Ev.bind (rlen_ev y i) ?_)
    have hb := mlen_bd y i h0 h12
    simp only [if_neg (show ¬ l ≥ mlen y i by omega)]
    rw [w64 (by omega) (by omega), show l + 1 = d by omega]
    exact Ev.now _
  | succ j ih =>
    intro i l h0 h1 hj hl
    have hb := mlen_bd y i h0 (by omega)
    have hb2 := mlen_bd y m (by omega) h12
    have hcm := cum_bd y m (by omega) h12
    have hci := cum_bd y i h0 (by omega)
    have hlp := lp_01 y
    have hst := cum_step y i m h0 (by omega) h12
    have hs := cum_succ y i h0 (by omega)
    refine Ev.step (f := fun k => (computusref02_Len.f k y i).bind fun t => if l ≥ t then (computusref02_Len.f k y i).bind fun t' => computusref02_Date.l1 k y (wrap64 (l - t')) (wrap64 (i + 1)) else some (y, i, wrap64 (l + 1), 0)) (fun k => by simp only [computusref02_Date.l1]) (Ev.bind (rlen_ev y i) ?_)
    simp only [if_pos (show l ≥ mlen y i by omega)]
    refine Ev.bind (rlen_ev y i) ?_
    rw [w64 (x := l - mlen y i) (by omega) (by omega), w64 (x := i + 1) (by omega) (by omega)]
    exact ih (i + 1) _ (by omega) (by omega) (by omega) (by omega)
theorem rdate_years {n y m d : Int} (h : IsDate n y m d) (hy : -100000000 ≤ y ∧ y ≤ 100000000) (j : Nat) : ∀ i l : Int, i ≤ y → -200000000 ≤ i → y - i = j → dby i + l = n → l ≤ 10000000 →
    Ev (fun k => computusref02_Date.l0 k i l) (y, m, d, 0) := by
  have hh := h.year
  have hs := dby_succ y
  have hl := lp_01 y
  have hm := h.m1
  have hm2 := h.m12
  have hnum := h.num
  unfold dnum at hnum
  have hcm := cum_bd y m hm hm2
  induction j with
  | zero =>
    intro i l h0 h00 hj hn hle
    have e : i = y := by omega
    subst e
    refine Ev.step (f := fun k => computusref02_Date.j1 k i l) (fun k => ?_) (Ev.step (f := fun k => computusref02_Date.l1 k i l 1) (fun k => by simp only [computusref02_Date.j1]) (rdate_months i l m d hm2 h.d1 h.dl (m - 1).toNat 1 l (by omega) hm (by omega) (by rw [cum_one]; omega)))
    simp only [computusref02_Date.l0]
    rw [rleap_eq]
    simp only [Option.bind_some, decide_eq_true_eq]
    by_cases hp : lp i = 1
    · rw [if_pos hp, if_pos (by omega)]
    · rw [if_neg hp, if_pos (by omega)]
  | succ j ih =>
    intro i l h0 h00 hj hn hle
    have hsi := dby_succ i
    have hli := lp_01 i
    have hf := dby_far (i + 1) y (by omega)
    refine Ev.step (f := fun k => computusref02_Date.l0 k (i + 1) (l - 365 - lp i)) (fun k => ?_) (ih (i + 1) _ (by omega) (by omega) (by omega) (by omega) (by omega))
    simp only [computusref02_Date.l0]
    rw [rleap_eq]
    simp only [Option.bind_some, decide_eq_true_eq]
    by_cases hp : lp i = 1
    · rw [if_pos hp, if_neg (by omega), w64 (x := i + 1) (by omega) (by omega), w64 (x := l - 366) (by omega) (by omega), show l - 366 = l - 365 - lp i by omega]
    · rw [if_neg hp, if_neg (by omega), w64 (x := i + 1) (by omega) (by omega), w64 (x := l - 365) (by omega) (by omega), show lp i = 0 by omega, Int.sub_zero]
theorem rdate_ev {n y m d : Int} (h : IsDate n y m d) (hc : CanDay n) : Ev (fun k => computusref02_Date.f k n) (y, m, d, 0) := by
  have hy := (can_of_year h).1 hc
  have hyr := h.year
  unfold computusref02_Date.f
  refine Ev.bind (rcan_ev n) ?_
  simp only [decide_eq_true_eq, if_pos hc]
  unfold CanDay at hc
  rw [rdiv_eq _ _ (by unfold I64; omega) (by omega) (by omega), rmod_eq _ _ (by omega) (by omega)]
  simp only [Option.bind_some]
  rw [w64 (x := n / 146097 * 400) (by omega) (by omega), w64 (by omega) (by omega)]
  have e : dby (2000 + n / 146097 * 400) = n / 146097 * 146097 := by
    have := dby_era 2000 (n / 146097)
    have c : dby 2000 = 0 := by decide
    rw [show 2000 + n / 146097 * 400 = 2000 + 400 * (n / 146097) by omega, this, c]; omega
  have hle : 2000 + n / 146097 * 400 ≤ y := by
    rcases Int.lt_or_le y (2000 + n / 146097 * 400) with g | g
    · have := dby_far (y + 1) (2000 + n / 146097 * 400) (by omega)
      omega
    · exact g
  exact rdate_years h (by omega) (y - (2000 + n / 146097 * 400)).toNat _ _ hle (by omega) (by omega) (by rw [e]; omega) (by omega)
theorem rdate_no {n : Int} (hc : ¬ CanDay n) : Ev (fun k => computusref02_Date.f k n) (0, 0, 0, 10) := by
  unfold computusref02_Date.f
  refine Ev.bind (rcan_ev n) ?_
  simp only [decide_eq_true_eq, if_neg hc]
  exact Ev.now _
theorem rshift_ev {n y m d q : Int} (h : IsDate n y m d) (hc : CanDay n) (hk : MonthsOk q) :
    Ev (fun k => computusref02_Shift.f k n q) (if DateOk (shY y m q) (shM y m q) (shD y m d q) then (dnum (shY y m q) (shM y m q) (shD y m d q), 0) else (0, 10)) := by
  have hk' := hk
  unfold MonthsOk at hk'
  have hy := (can_of_year h).1 hc
  have h1 := h.m1
  have h2 := h.m12
  unfold computusref02_Shift.f
  refine Ev.bind (rdate_ev h hc) ?_
  simp only [if_true]
  simp only [if_neg (show ¬ q > 3600000 by omega), decide_eq_false (show ¬ q < -3600000 by omega)]
  refine Ev.step (f := fun k => (computusref02_Len.f k (shY y m q) (shM y m q)).bind fun t => if d > t then (computusref02_Len.f k (shY y m q) (shM y m q)).bind fun t' => (computusref02_Days.f k (shY y m q) (shM y m q) t').bind fun b => some (b.1, b.2) else (computusref02_Days.f k (shY y m q) (shM y m q) d).bind fun b => some (b.1, b.2)) (fun k => ?_) ?_
  · simp only [computusref02_Shift.j0]
    rw [if_neg (by simp)]
    rw [w64 (x := 12 * y) (by omega) (by omega), w64 (x := 12 * y + m) (by omega) (by omega), w64 (x := 12 * y + m - 1) (by omega) (by omega), w64 (x := 12 * y + m - 1 + q) (by omega) (by omega), rdiv_eq _ _ (by unfold I64; omega) (by omega) (by omega), rmod_eq _ _ (by omega) (by omega)]
    simp only [Option.bind_some]
    rw [w64 (x := (12 * y + m - 1 + q) % 12 + 1) (by omega) (by omega)]
    rfl
  · refine Ev.bind (rlen_ev _ _) ?_
    unfold shD
    by_cases hd : mlen (shY y m q) (shM y m q) < d
    · simp only [if_pos (show d > mlen (shY y m q) (shM y m q) from hd), if_pos hd]
      exact Ev.bind (rlen_ev _ _) (Ev.bind (rdays_ev _ _ _) (Ev.now _))
    · simp only [if_neg (show ¬ d > mlen (shY y m q) (shM y m q) from hd), if_neg hd]
      exact Ev.bind (rdays_ev _ _ _) (Ev.now _)
theorem rshift_no {n q : Int} (h : ¬ CanDay n ∨ ¬ MonthsOk q) : Ev (fun k => computusref02_Shift.f k n q) (0, 10) := by
  by_cases hc : CanDay n
  · have hk := h.resolve_left (fun f => f hc)
    unfold MonthsOk at hk
    obtain ⟨y1, m1, d1, hd⟩ := date_of n
    unfold computusref02_Shift.f
    refine Ev.bind (rdate_ev hd hc) ?_
    simp only [if_true]
    by_cases h1 : q > 3600000
    · simp only [if_pos h1]
      exact Ev.at1 fun k => by simp only [computusref02_Shift.j0]; rfl
    · simp only [if_neg h1, decide_eq_true (show q < -3600000 by omega)]
      exact Ev.at1 fun k => by simp only [computusref02_Shift.j0]; rfl
  · unfold computusref02_Shift.f
    refine Ev.bind (rdate_no hc) ?_
    exact Ev.at1 fun k => by simp only [computusref02_Shift.j0]; rfl
end Go.Proofs.YtimgphlfaninnaaGreat.Civ
namespace Go.Proofs.YtimgphlfaninnaaGreat.Civ
set_option linter.unusedVariables false
set_option linter.unusedSimpArgs false
open Go.RowKit Go.Proofs.YtimgphlfaninnaaGreatW.PrintWords Go.Proofs.YtimgphlfaninnaaGreatW.PrintLast Go.Proofs.YtimgphlfaninnaaGreatW.PrintMore Go.Proofs.YtimgphlfaninnaaGreat.P
theorem u64m (x : Int) : IntKind.u64.wrap x = x % 18446744073709551616 := by simp [IntKind.wrap, IntKind.bits, IntKind.signed]
theorem u64w {x : Int} (h1 : 0 ≤ x) (h2 : x ≤ 18446744073709551615) : IntKind.u64.wrap x = x := by rw [u64m]; omega
theorem wraps_u64 (n : Int) (h₀ : 0 ≤ n) (h₁ : n < 2 ^ 64) : IntKind.u64.wrap n = n := by rw [u64m]; omega
theorem and32 {x : Int} (h1 : 0 ≤ x) (h2 : x ≤ 18446744073709551615) : Go.bits .and .u64 x 4294967295 = x % 4294967296 :=
  bits_mask .u64 64 (by decide) wraps_u64 32 (by decide) x h1 (by omega)
def sgn (a b : Int) : Int := if a < b then -1 else if b < a then 1 else 0
theorem sgn_gt {a b : Int} (h : b < a) : sgn a b = 1 := by unfold sgn; rw [if_neg (by omega), if_pos h]
theorem sgn_eq {a b : Int} (h : a = b) : sgn a b = 0 := by unfold sgn; rw [if_neg (by omega), if_neg (by omega)]
end Go.Proofs.YtimgphlfaninnaaGreat.Civ
namespace Go.Proofs.YtimgphlfaninnaaGreat.Civ
set_option linter.unusedVariables false
set_option linter.unusedSimpArgs false
open Go.RowKit Go.Proofs.YtimgphlfaninnaaGreatW.PrintWords Go.Proofs.YtimgphlfaninnaaGreatW.PrintLast Go.Proofs.YtimgphlfaninnaaGreatW.PrintMore Go.Proofs.YtimgphlfaninnaaGreat.P
instance (x : Int) : Decidable (I64 x) := inferInstanceAs (Decidable (_ ∧ _))
/-- A number, if it is one of 64 bits; else out of range. -/
def out (z : Int) : Int × Int := if I64 z then (z, 0) else (0, 10)
theorem out_in {z : Int} (h : I64 z) : out z = (z, 0) := if_pos h
theorem out_no {z : Int} (h : ¬ I64 z) : out z = (0, 10) := if_neg h
theorem add_eq (a b : Int) (ha : I64 a) (hb : I64 b) : num_Add.f a b = some (out (a + b)) := by
  unfold num_Add.f out
  by_cases h : I64 (a + b)
  · rw [if_pos h, w64_of h, if_neg]
    simp only [bne_iff_ne, ne_eq, Decidable.not_not]
    apply decide_eq_decide.2; omega
  · rw [if_neg h, if_pos]
    unfold I64 at *
    have hw : wrap64 (a + b) = a + b - 18446744073709551616 ∨ wrap64 (a + b) = a + b + 18446744073709551616 := by unfold wrap64; omega
    simp only [bne_iff_ne, ne_eq, decide_eq_decide]
    unfold wrap64 at *
    omega
theorem sub_eq (a b : Int) (ha : I64 a) (hb : I64 b) : num_Sub.f a b = some (out (a - b)) := by
  unfold num_Sub.f out
  by_cases h : I64 (a - b)
  · rw [if_pos h, w64_of h, if_neg]
    simp only [bne_iff_ne, ne_eq, Decidable.not_not]
    apply decide_eq_decide.2; omega
  · rw [if_neg h, if_pos]
    unfold I64 at *
    simp only [bne_iff_ne, ne_eq, decide_eq_decide]
    unfold wrap64 at *
    omega
theorem neg_eq (a : Int) (ha : I64 a) : num_Neg.f a = some (out (-a)) := by
  unfold num_Neg.f
  rw [sub_eq 0 a (by unfold I64; omega) ha]
  simp only [Option.bind_some, Int.zero_sub]
/-- Without a sign. -/
def ab (a : Int) : Int := if a < 0 then -a else a
theorem ab_bd {a : Int} (h : I64 a) : 0 ≤ ab a ∧ ab a ≤ 9223372036854775808 := by unfold ab; unfold I64 at h; split <;> omega
theorem ab_pos {a : Int} (h : 0 ≤ a) : ab a = a := by unfold ab; rw [if_neg (by omega)]
theorem ab_neg {a : Int} (h : a < 0) : ab a = -a := by unfold ab; rw [if_pos h]
theorem size_eq (a : Int) (ha : I64 a) : num_size.f a = some (ab a) := by
  unfold num_size.f ab
  unfold I64 at ha
  by_cases h : a < 0
  · rw [if_pos h, if_pos h, u64m, u64m]; congr 1; omega
  · rw [if_neg h, if_neg h, u64m]; congr 1; omega
theorem mul_bd {x y a b : Int} (hx : 0 ≤ x) (hxa : x ≤ a) (hy : 0 ≤ y) (hyb : y ≤ b) : 0 ≤ x * y ∧ x * y ≤ a * b :=
  ⟨Int.mul_nonneg hx hy, Int.mul_le_mul hxa hyb hy (by omega)⟩
theorem mul64_eq (x y : Int) (hx : 0 ≤ x) (hx1 : x ≤ 18446744073709551615) (hy : 0 ≤ y) (hy1 : y ≤ 18446744073709551615) :
    bits_Mul64.f x y = some (x * y / 18446744073709551616, x * y % 18446744073709551616) := by
  unfold bits_Mul64.f
  rw [and32 hx hx1, and32 hy hy1]
  have ex : x = x / 4294967296 * 4294967296 + x % 4294967296 := by omega
  have ey : y = y / 4294967296 * 4294967296 + y % 4294967296 := by omega
  have bx1 : 0 ≤ x / 4294967296 ∧ x / 4294967296 ≤ 4294967295 := by omega
  have bx0 : 0 ≤ x % 4294967296 ∧ x % 4294967296 ≤ 4294967295 := by omega
  have by1 : 0 ≤ y / 4294967296 ∧ y / 4294967296 ≤ 4294967295 := by omega
  have by0 : 0 ≤ y % 4294967296 ∧ y % 4294967296 ≤ 4294967295 := by omega
  have p11 := mul_bd bx1.1 bx1.2 by1.1 by1.2
  have p10 := mul_bd bx1.1 bx1.2 by0.1 by0.2
  have p01 := mul_bd bx0.1 bx0.2 by1.1 by1.2
  have p00 := mul_bd bx0.1 bx0.2 by0.1 by0.2
  have e : x * y = x / 4294967296 * (y / 4294967296) * 18446744073709551616 + (x / 4294967296 * (y % 4294967296) + x % 4294967296 * (y / 4294967296)) * 4294967296 + x % 4294967296 * (y % 4294967296) := by
    conv => lhs; rw [ex, ey]
    simp only [Int.mul_add, Int.add_mul]
    have c1 : x / 4294967296 * 4294967296 * (y / 4294967296 * 4294967296) = x / 4294967296 * (y / 4294967296) * 18446744073709551616 := by
      rw [Int.mul_assoc, Int.mul_left_comm 4294967296, ← Int.mul_assoc (x / 4294967296)]; rfl
    have c2 : x % 4294967296 * (y / 4294967296 * 4294967296) = x % 4294967296 * (y / 4294967296) * 4294967296 := by rw [Int.mul_assoc]
    have c3 : x / 4294967296 * 4294967296 * (y % 4294967296) = x / 4294967296 * (y % 4294967296) * 4294967296 := by rw [Int.mul_assoc, Int.mul_comm 4294967296, ← Int.mul_assoc]
    rw [c1, c2, c3]; omega
  generalize x * y = P at *
  generalize x / 4294967296 * (y / 4294967296) = P11 at *
  generalize x / 4294967296 * (y % 4294967296) = P10 at *
  generalize x % 4294967296 * (y / 4294967296) = P01 at *
  generalize x % 4294967296 * (y % 4294967296) = P00 at *
  clear ex ey bx1 bx0 by1 by0 hx hx1 hy hy1
  rw [u64w (x := P11) (by omega) (by omega), u64w (x := P10) (by omega) (by omega), u64w (x := P00) (by omega) (by omega), u64w (x := P01) (by omega) (by omega)]
  have t : 0 ≤ P00 / 4294967296 ∧ P00 / 4294967296 ≤ 4294967295 := by omega
  rw [u64w (x := P10 + P00 / 4294967296) (by omega) (by omega), and32 (by omega) (by omega)]
  obtain ⟨T, hT⟩ : ∃ T, P10 + P00 / 4294967296 = T := ⟨_, rfl⟩
  rw [hT]
  rw [u64w (x := T % 4294967296 + P01) (by omega) (by omega), u64w (x := P11 + T / 4294967296) (by omega) (by omega), u64w (x := P11 + T / 4294967296 + (T % 4294967296 + P01) / 4294967296) (by omega) (by omega), u64m]
  congr 2
  omega
theorem product_eq (a b : Int) (ha : I64 a) (hb : I64 b) : num_product.f a b = some (ab a * ab b / 18446744073709551616, ab a * ab b % 18446744073709551616) := by
  have h1 := ab_bd ha
  have h2 := ab_bd hb
  unfold num_product.f
  rw [size_eq a ha, size_eq b hb]
  simp only [Option.bind_some]
  rw [mul64_eq _ _ h1.1 (by omega) h2.1 (by omega)]
  rfl
theorem signed_eq (k : Nat) (neg : Bool) (hi lo : Int) (h0 : 0 ≤ hi) (h1 : 0 ≤ lo) (h2 : lo ≤ 18446744073709551615) :
    num_signed.f (k + 1) neg hi lo = some (out (if neg = true then -(hi * 18446744073709551616 + lo) else hi * 18446744073709551616 + lo)) := by
  unfold num_signed.f
  by_cases hh : hi = 0
  · subst hh
    rw [if_pos rfl]
    cases neg with
    | true =>
      simp only [if_true, num_signed.j0]
      by_cases g : lo ≤ 9223372036854775808
      · rw [decide_eq_true g, if_pos rfl, out_in (by unfold I64; omega), u64m]
        congr 2; unfold wrap64; omega
      · rw [decide_eq_false g, if_neg (by simp), out_no (by unfold I64; omega)]
    | false =>
      simp only [num_signed.j0, Bool.false_eq_true, if_false]
      by_cases g : lo > 9223372036854775807
      · rw [if_pos g, out_no (by unfold I64; omega)]
      · rw [if_neg g, out_in (by unfold I64; omega), w64 (by omega) (by omega)]
        congr 2; omega
  · rw [if_neg hh]
    cases neg with
    | true => rw [if_pos rfl, out_no (by unfold I64; omega)]
    | false => rw [if_neg (by simp), out_no (by unfold I64; omega)]
/-- The sign of a product. -/
theorem mul_sign (a b : Int) : (if ((decide (a < 0)) != (decide (b < 0))) = true then -(ab a * ab b) else ab a * ab b) = a * b := by
  by_cases h1 : a < 0
  · by_cases h2 : b < 0
    · rw [decide_eq_true h1, decide_eq_true h2, if_neg (by simp), ab_neg h1, ab_neg h2, Int.neg_mul_neg]
    · rw [decide_eq_true h1, decide_eq_false h2, if_pos (by simp), ab_neg h1, ab_pos (by omega), Int.neg_mul, Int.neg_neg]
  · by_cases h2 : b < 0
    · rw [decide_eq_false h1, decide_eq_true h2, if_pos (by simp), ab_pos (by omega), ab_neg h2, Int.mul_neg, Int.neg_neg]
    · rw [decide_eq_false h1, decide_eq_false h2, if_neg (by simp), ab_pos (by omega), ab_pos (by omega)]
theorem mul_eq (k : Nat) (a b : Int) (ha : I64 a) (hb : I64 b) : num_Mul.f (k + 1) a b = some (out (a * b)) := by
  have h1 := ab_bd ha
  have h2 := ab_bd hb
  have h3 := mul_bd h1.1 h1.2 h2.1 h2.2
  unfold num_Mul.f
  rw [product_eq a b ha hb]
  simp only [Option.bind_some]
  rw [signed_eq _ _ _ _ (by omega) (by omega) (by omega)]
  simp only [Option.bind_some]
  rw [show ab a * ab b / 18446744073709551616 * 18446744073709551616 + ab a * ab b % 18446744073709551616 = ab a * ab b by omega, mul_sign]
/-- How often, the greatest whole number that is not above; what is left. -/
def fl (a b : Int) : Int := if b < 0 then (-a) / (-b) else a / b
def md (a b : Int) : Int := if b < 0 then -((-a) % (-b)) else a % b
theorem fl_unique {a b q r : Int} (h : a = b * q + r) (hr : (0 ≤ r ∧ r < b) ∨ (b < r ∧ r ≤ 0)) : fl a b = q ∧ md a b = r := by
  unfold fl md
  by_cases hb : b < 0
  · rw [if_pos hb, if_pos hb]
    have := (Int.ediv_emod_unique (a := -a) (b := -b) (r := -r) (q := q) (by omega)).2 ⟨by rw [Int.neg_mul]; omega, by omega, by omega⟩
    omega
  · rw [if_neg hb, if_neg hb]
    have := (Int.ediv_emod_unique (a := a) (b := b) (r := r) (q := q) (by omega)).2 ⟨by omega, by omega, by omega⟩
    omega
theorem div64_small (k : Nat) (lo y : Int) (h0 : 0 < y) (h1 : 0 ≤ lo) (h2 : lo ≤ 18446744073709551615) : bits_Div64.f k 0 lo y = some (lo / y, lo % y) := by
  unfold bits_Div64.f
  rw [if_neg (by omega), if_neg (by omega), if_pos rfl, td_pos h1, tm_pos h1]
  have := Int.ediv_le_self y h1
  have := Int.ediv_nonneg h1 (b := y) (by omega)
  rw [u64w (by omega) (by omega)]
/-- Of a product without signs, and how often a number without a sign is there: with the signs. -/
theorem fl_signs {a b c P D : Int} (hP : ab a * ab b = P) (hD : ab c = D) (hc : c ≠ 0) :
    fl (a * b) c = if (((decide (a < 0)) != (decide (b < 0))) != (decide (c < 0))) = true then (if P % D = 0 then -(P / D) else -(P / D) - 1) else P / D := by
  have hs := mul_sign a b
  rw [hP] at hs
  have hD0 : 0 < D := by rw [← hD]; unfold ab; split <;> omega
  have e := Int.mul_ediv_add_emod P D
  have r0 := Int.emod_nonneg P (Int.ne_of_gt hD0)
  have r1 := Int.emod_lt_of_pos P hD0
  have hP0 : ((decide (a < 0)) != (decide (b < 0))) = true → a * b = -P := fun h => by rw [if_pos h] at hs; exact hs.symm
  have hP1 : ((decide (a < 0)) != (decide (b < 0))) = false → a * b = P := fun h => by rw [if_neg (by rw [h]; simp)] at hs; exact hs.symm
  generalize ((decide (a < 0)) != (decide (b < 0))) = s at *
  generalize P / D = q at *
  generalize P % D = r at *
  have em : D * (q + 1) = D * q + D := by rw [Int.mul_add, Int.mul_one]
  by_cases h3 : c < 0
  · rw [ab_neg h3] at hD
    rw [decide_eq_true h3]
    cases s with
    | true =>
      rw [if_neg (by simp), hP0 rfl]
      exact (fl_unique (r := -r) (by rw [← e, show c = -D by omega, Int.neg_mul]; omega) (by omega)).1
    | false =>
      rw [if_pos (by simp), hP1 rfl]
      by_cases hr : r = 0
      · rw [if_pos hr]
        exact (fl_unique (r := 0) (by rw [← e, show c = -D by omega, Int.neg_mul_neg]; omega) (by omega)).1
      · rw [if_neg hr]
        exact (fl_unique (r := r - D) (by rw [← e, show c = -D by omega, show -q - 1 = -(q + 1) by omega, Int.neg_mul_neg]; omega) (by omega)).1
  · rw [ab_pos (by omega)] at hD
    subst hD
    rw [decide_eq_false h3]
    cases s with
    | true =>
      rw [if_pos (by simp), hP0 rfl]
      by_cases hr : r = 0
      · rw [if_pos hr]
        exact (fl_unique (r := 0) (by rw [← e, Int.mul_neg]; omega) (by omega)).1
      · rw [if_neg hr]
        exact (fl_unique (r := c - r) (by rw [← e, show -q - 1 = -(q + 1) by omega, Int.mul_neg]; omega) (by omega)).1
    | false =>
      rw [if_neg (by simp), hP1 rfl]
      exact (fl_unique (r := r) (by omega) (by omega)).1
theorem add64_eq (x : Int) (h0 : 0 ≤ x) : bits_Add64.f x 1 0 = some ((x + 1) % 18446744073709551616, (x + 1) / 18446744073709551616) := by
  unfold bits_Add64.f
  rw [if_pos h0, if_pos (by omega), if_pos (by omega), if_pos (by omega), Int.add_zero]
/-- One number times another one, and how often a third one is there: if the division of 128 bits by 64 is as it is. -/
theorem scale_of (k : Nat) (a b c : Int) (ha : I64 a) (hb : I64 b) (hc : I64 c) (h0 : c ≠ 0)
    (hd : ab a * ab b / 18446744073709551616 < ab c → bits_Div64.f (k + 1) (ab a * ab b / 18446744073709551616) (ab a * ab b % 18446744073709551616) (ab c) = some (ab a * ab b / ab c, ab a * ab b % ab c)) :
    num_Scale.f (k + 1) a b c = some (out (fl (a * b) c)) := by
  have h1 := ab_bd ha
  have h2 := ab_bd hb
  have h3 := ab_bd hc
  have h4 := mul_bd h1.1 h1.2 h2.1 h2.2
  have hD0 : 0 < ab c := by unfold ab; split <;> omega
  rw [fl_signs rfl rfl h0]
  unfold num_Scale.f
  rw [if_neg h0, product_eq a b ha hb, size_eq c hc]
  simp only [Option.bind_some]
  generalize hP : ab a * ab b = P at *
  generalize hD : ab c = D at *
  have e := Int.mul_ediv_add_emod P D
  have r0 := Int.emod_nonneg P (Int.ne_of_gt hD0)
  have r1 := Int.emod_lt_of_pos P hD0
  have q0 : 0 ≤ P / D := Int.ediv_nonneg h4.1 (by omega)
  by_cases hl : P / 18446744073709551616 ≥ D
  · rw [if_pos hl]
    have hq : 18446744073709551616 ≤ P / D := by
      rw [Int.le_ediv_iff_mul_le hD0]; omega
    split
    · split
      · rw [out_no (by unfold I64; omega)]
      · rw [out_no (by unfold I64; omega)]
    · rw [out_no (by unfold I64; omega)]
  · rw [if_neg hl, hd (by omega)]
    simp only [Option.bind_some]
    have hq : P / D < 18446744073709551616 := Int.ediv_lt_of_lt_mul hD0 (by omega)
    generalize P / D = q at *
    generalize P % D = r at *
    by_cases hs : (((decide (a < 0)) != (decide (b < 0))) != (decide (c < 0))) = true
    · rw [if_pos hs, if_pos hs, hs]
      by_cases hr : r = 0
      · rw [if_pos hr, if_pos hr, signed_eq _ _ _ _ (by omega) (by omega) (by omega), if_pos rfl]
        simp only [Option.bind_some]
        rw [show (0 : Int) * 18446744073709551616 + q = q by omega]
      · rw [if_neg hr, if_neg hr, add64_eq _ q0]
        simp only [Option.bind_some]
        rw [signed_eq _ _ _ _ (by omega) (by omega) (by omega), if_pos rfl]
        simp only [Option.bind_some]
        rw [show (q + 1) / 18446744073709551616 * 18446744073709551616 + (q + 1) % 18446744073709551616 = q + 1 by omega, show -(q + 1) = -q - 1 by omega]
    · rw [if_neg hs, if_neg hs, signed_eq _ _ _ _ (by omega) (by omega) (by omega), if_neg hs]
      simp only [Option.bind_some]
      rw [show (0 : Int) * 18446744073709551616 + q = q by omega]
theorem div_eq (k : Nat) (a c : Int) (ha : I64 a) (hc : I64 c) (h0 : c ≠ 0) : num_Div.f (k + 1) a c = some (out (fl a c)) := by
  have h1 := ab_bd ha
  have h3 := ab_bd hc
  have hD0 : 0 < ab c := by unfold ab; split <;> omega
  unfold num_Div.f
  rw [scale_of k a 1 c ha (by unfold I64; omega) hc h0 (fun _ => ?_)]
  · simp only [Option.bind_some, Int.mul_one]
  · rw [ab_pos (a := 1) (by omega), Int.mul_one, show ab a / 18446744073709551616 = 0 by omega, show ab a % 18446744073709551616 = ab a by omega]
    exact div64_small _ _ _ hD0 h1.1 (by omega)
theorem mod_eq (a b : Int) (ha : I64 a) (hb : I64 b) (h0 : b ≠ 0) : num_Mod.f a b = some (md a b, 0) := by
  unfold num_Mod.f
  rw [if_neg h0]
  by_cases h1 : b = -1
  · rw [if_pos h1]
    have : md a b = 0 := by unfold md; rw [if_pos (by omega), h1]; simp
    rw [this]
  rw [if_neg h1]
  unfold I64 at hb
  by_cases hs : b < 0
  · -- the remainder of a cut division has the sign of a
    have e : Int.tmod a b = Int.tmod a (-b) := by rw [Int.tmod_neg]
    have c := cut_floor a (b := -b) (by omega)
    have g1 := Int.emod_nonneg a (b := -b) (by omega)
    have g2 := Int.emod_lt_of_pos a (b := -b) (by omega)
    have e2 : md a b = if a % (-b) = 0 then 0 else a % (-b) + b := by
      have d := Int.mul_ediv_add_emod a (-b)
      split
      · rename_i hz
        exact (fl_unique (q := -(a / -b)) (by rw [Int.mul_neg, ← Int.neg_mul]; omega) (by omega)).2
      · exact (fl_unique (q := -(a / -b) - 1) (by rw [show -(a / -b) - 1 = -((a / -b) + 1) by omega, Int.mul_neg, ← Int.neg_mul, Int.mul_add]; omega) (by omega)).2
    rw [e, e2]
    by_cases hn : Int.tmod a (-b) < 0
    · obtain ⟨c1, c2, c3⟩ := c.1 hn
      rw [if_neg (by omega), if_neg (show ¬ a % (-b) = 0 by omega), decide_eq_true hn, decide_eq_true hs, if_neg (by simp)]
      congr 2; omega
    · obtain ⟨c1, c2⟩ := c.2 hn
      rw [c2]
      by_cases hz : a % (-b) = 0
      · rw [if_pos hz, if_pos hz, hz]
      · rw [if_neg hz, if_neg hz, decide_eq_false (show ¬ a % (-b) < 0 by omega), decide_eq_true hs, if_pos (by simp), w64 (by omega) (by omega)]
  · have c := cut_floor a (b := b) (by omega)
    have g1 := Int.emod_nonneg a (b := b) (by omega)
    have g2 := Int.emod_lt_of_pos a (b := b) (by omega)
    have e2 : md a b = a % b := by unfold md; rw [if_neg hs]
    rw [e2]
    by_cases hn : Int.tmod a b < 0
    · obtain ⟨c1, c2, c3⟩ := c.1 hn
      rw [if_neg (by omega), decide_eq_true hn, decide_eq_false hs, if_pos (by simp), w64 (by omega) (by omega)]
      congr 2; omega
    · obtain ⟨c1, c2⟩ := c.2 hn
      rw [c2]
      by_cases hz : a % b = 0
      · rw [if_pos hz]
      · rw [if_neg hz, decide_eq_false (show ¬ a % b < 0 by omega), decide_eq_false hs, if_neg (by simp)]
theorem fl_pos {a b : Int} (h : 0 < b) : fl a b = a / b := by unfold fl; rw [if_neg (by omega)]
theorem md_pos {a b : Int} (h : 0 < b) : md a b = a % b := by unfold md; rw [if_neg (by omega)]
theorem split_eq (k : Nat) (us : Int) (h : I64 us) : num_Split.f (k + 1) us = some (us / 86400000000, us % 86400000000) := by
  unfold num_Split.f
  have hc : I64 86400000000 := by unfold I64; omega
  rw [div_eq k us 86400000000 h hc (by omega), mod_eq us 86400000000 h hc (by omega), fl_pos (by omega), md_pos (by omega), out_in (ediv_i64 h (by omega))]
  rfl
end Go.Proofs.YtimgphlfaninnaaGreat.Civ
namespace Go.Proofs.YtimgphlfaninnaaGreat.Civ
set_option linter.unusedVariables false
set_option linter.unusedSimpArgs false
open Go.RowKit Go.Proofs.YtimgphlfaninnaaGreatW.PrintWords Go.Proofs.YtimgphlfaninnaaGreatW.PrintLast Go.Proofs.YtimgphlfaninnaaGreatW.PrintMore Go.Proofs.YtimgphlfaninnaaGreat.P
/-- A wide number's sign and parts. -/
def ng (x : Int) : Bool := decide (x < 0)
end Go.Proofs.YtimgphlfaninnaaGreat.Civ
namespace Go.Proofs.YtimgphlfaninnaaGreat.Civ
set_option linter.unusedVariables false
set_option linter.unusedSimpArgs false
open Go.RowKit Go.Proofs.YtimgphlfaninnaaGreatW.PrintWords Go.Proofs.YtimgphlfaninnaaGreatW.PrintLast Go.Proofs.YtimgphlfaninnaaGreatW.PrintMore Go.Proofs.YtimgphlfaninnaaGreat.P
theorem cmp64_eq (a b : Int) : cmp_Compare_int64.f a b = some (sgn a b) := by
  unfold cmp_Compare_int64.f cmp_isNaN_int64.f sgn
  simp only [Option.bind_some, bne_self_eq_false, Bool.false_eq_true, if_false]
  by_cases h : a < b
  · rw [if_pos h, if_pos h]
  · rw [if_neg h, if_neg h]
    by_cases g : a > b
    · rw [if_pos g, if_pos g]
    · rw [if_neg g, if_neg (show ¬ b < a from g)]
theorem cmpi_eq (a b : Int) : cmp_Compare_int.f a b = some (sgn a b) := by
  unfold cmp_Compare_int.f cmp_isNaN_int.f sgn
  simp only [Option.bind_some, bne_self_eq_false, Bool.false_eq_true, if_false]
  by_cases h : a < b
  · rw [if_pos h, if_pos h]
  · rw [if_neg h, if_neg h]
    by_cases g : a > b
    · rw [if_pos g, if_pos g]
    · rw [if_neg g, if_neg (show ¬ b < a from g)]
theorem or_ev (a b : Int) : Ev (fun k => cmp_Or_int.f k [a, b]) (if a = 0 then b else a) := by
  refine Ev.of (cmp_Or_int.mono [a, b]) (k := 3) ?_
  have e0 : rd [a, b] 0 = a := rfl
  have e1 : rd [a, b] 1 = b := rfl
  have w1 : wrap64 1 = 1 := w64 (by omega) (by omega)
  have w2 : wrap64 2 = 2 := w64 (by omega) (by omega)
  unfold cmp_Or_int.f
  by_cases h : a = 0
  · subst h
    by_cases g : b = 0
    · subst g
      simp [cmp_Or_int.l0, e0, e1, w1, w2]
    · simp [cmp_Or_int.l0, e0, e1, w1, w2, g]
  · simp [cmp_Or_int.l0, e0, h]
end Go.Proofs.YtimgphlfaninnaaGreat.Civ
namespace Go.Proofs.YtimgphlfaninnaaGreat.Civ
set_option linter.unusedVariables false
set_option linter.unusedSimpArgs false
open Go.RowKit Go.Proofs.YtimgphlfaninnaaGreatW.PrintWords Go.Proofs.YtimgphlfaninnaaGreatW.PrintLast Go.Proofs.YtimgphlfaninnaaGreatW.PrintMore Go.Proofs.YtimgphlfaninnaaGreat.P
/-- A day from the year -4712 to 294276. -/
def DIn (n : Int) : Prop := -2451507 ≤ n ∧ n ≤ 106751982
instance (n : Int) : Decidable (DIn n) := inferInstanceAs (Decidable (_ ∧ _))
theorem dby_lo : dby (-4712) = -2451507 := by decide
theorem dby_hi : dby 294277 = 106751983 := by decide
theorem din_year {n y m d : Int} (h : IsDate n y m d) : (-4712 ≤ y ∧ y ≤ 294276) ↔ DIn n := by
  have g := h.year
  have a := dby_lo
  have b := dby_hi
  unfold DIn
  constructor
  · intro f
    have p := dby_far (-4712) y (by omega)
    have q := dby_far (y + 1) 294277 (by omega)
    omega
  · intro f
    constructor
    · rcases Int.lt_or_le y (-4712) with z | z
      · have p := dby_far (y + 1) (-4712) (by omega)
        omega
      · exact z
    · rcases Int.lt_or_le 294276 y with z | z
      · have p := dby_far 294277 y (by omega)
        omega
      · exact z
theorem din_can {n : Int} (h : DIn n) : CanDay n := by unfold DIn at h; unfold CanDay; omega
theorem din_i64 {n : Int} (h : DIn n) : I64 n := by unfold DIn at h; unfold I64; omega
theorem inside_eq (n : Int) : day_inside.f n = some (decide (DIn n)) := by
  unfold day_inside.f
  by_cases hc : CanDay n
  · obtain ⟨y, m, d, h⟩ := date_of n
    rw [date_eq h hc]
    have e := din_year h
    simp only [Option.bind_some, if_true]
    by_cases g : y ≥ -4712
    · rw [if_pos g]; congr 1; apply decide_eq_decide.2; rw [← e]; omega
    · rw [if_neg g, decide_eq_false]; rw [← e]; omega
  · rw [date_no hc]
    simp only [Option.bind_some]
    rw [if_neg (by decide), decide_eq_false (fun f => hc (din_can f))]
theorem rinside_ev (n : Int) : Ev (fun k => computusref15_inside.f k n) (decide (DIn n)) := by
  unfold computusref15_inside.f
  by_cases hc : CanDay n
  · obtain ⟨y, m, d, h⟩ := date_of n
    have e := din_year h
    refine Ev.bind (rdate_ev h hc) ?_
    refine Ev.pos rfl ?_
    by_cases g : y ≥ -4712
    · refine Ev.pos g (Ev.cast (Ev.now _) ?_)
      apply decide_eq_decide.2; rw [← e]; show y ≤ 294276 ↔ _; omega
    · refine Ev.neg g (Ev.cast (Ev.now _) ?_)
      rw [decide_eq_false]; rw [← e]; omega
  · refine Ev.bind (rdate_no hc) ?_
    refine Ev.neg (by decide) (Ev.cast (Ev.now _) ?_)
    rw [decide_eq_false (fun f => hc (din_can f))]
/-- A date or an error. -/
def made (n : Int) : Int × Int × Int := if DIn n then (0, n, 0) else (0, 0, 10)
def madeE (n e : Int) : Int × Int × Int := if e = 0 then made n else (0, 0, 10)
theorem finite_eq (n e : Int) : day_finite.f n e = some (madeE n e) := by
  unfold day_finite.f madeE made
  by_cases h : e = 0
  · rw [if_pos h, if_pos h, inside_eq]
    simp only [Option.bind_some, decide_eq_true_eq]
    split <;> rfl
  · rw [if_neg h, if_neg h]
theorem rmade_ev (n e : Int) : Ev (fun k => computusref15_made.f k n e) (madeE n e) := by
  unfold computusref15_made.f madeE made
  by_cases h : e = 0
  · rw [if_pos h]
    refine Ev.pos h (Ev.bind (rinside_ev n) ?_)
    by_cases g : DIn n
    · rw [if_pos g]; exact Ev.pos (decide_eq_true g) (Ev.now _)
    · rw [if_neg g]; exact Ev.neg (by rw [decide_eq_false g]; simp) (Ev.now _)
  · refine Ev.neg h ?_; rw [if_neg h]; exact Ev.now _
theorem madeE_out (z : Int) : madeE (out z).1 (out z).2 = made z := by
  by_cases h : I64 z
  · rw [out_in h]; rfl
  · rw [out_no h]
    unfold madeE made
    rw [if_neg (by decide), if_neg (fun f => h (din_i64 f))]
/-- A date that can be. -/
def DR (i n : Int) : Prop := (i = 0 ∧ DIn n) ∨ ((i = -1 ∨ i = 1) ∧ n = 0)
instance (i n : Int) : Decidable (DR i n) := inferInstanceAs (Decidable (_ ∨ _))
theorem dr_fin {n : Int} : DR 0 n ↔ DIn n := by unfold DR DIn; omega
theorem dright_eq (i n : Int) : day_Right.f i n = some (decide (DR i n)) := by
  unfold day_Right.f
  simp only [Bool.and_eq_true, beq_iff_eq]
  by_cases h1 : i = -1 ∧ n = 0
  · rw [if_pos h1, decide_eq_true (show DR i n from .inr ⟨.inl h1.1, h1.2⟩)]
  · rw [if_neg h1]
    by_cases h2 : i = 1 ∧ n = 0
    · rw [if_pos h2, decide_eq_true (show DR i n from .inr ⟨.inr h2.1, h2.2⟩)]
    · rw [if_neg h2]
      by_cases h3 : i = 0
      · subst h3
        rw [if_pos rfl, inside_eq]
        simp only [Option.bind_some]
        congr 1; exact decide_eq_decide.2 dr_fin.symm
      · rw [if_neg h3, decide_eq_false (show ¬ DR i n by unfold DR; omega)]
theorem rdright_ev (i n : Int) : Ev (fun k => computusref15_Right.f k i n) (decide (DR i n)) := by
  unfold computusref15_Right.f
  have e : (n == 0) = decide (n = 0) := rfl
  by_cases h : i = 0
  · subst h
    refine Ev.pos rfl (Ev.bind (rinside_ev n) (Ev.cast (Ev.now _) ?_))
    exact decide_eq_decide.2 dr_fin.symm
  · refine Ev.neg h ?_
    by_cases h1 : i = -1
    · refine Ev.pos h1 (Ev.cast (Ev.now _) ?_)
      rw [e]; apply decide_eq_decide.2; unfold DR; omega
    · refine Ev.neg h1 ?_
      by_cases h2 : i = 1
      · refine Ev.pos h2 (Ev.cast (Ev.now _) ?_)
        rw [e]; apply decide_eq_decide.2; unfold DR; omega
      · refine Ev.neg h2 (Ev.cast (Ev.now _) ?_)
        rw [decide_eq_false (show ¬ DR i n by unfold DR; omega)]
/-- So many days on. -/
def addD (i n q : Int) : Int × Int × Int := if DR i n then (if i = 0 then made (n + q) else (i, n, 0)) else (0, 0, 1)
theorem dr_i64 {i n : Int} (h : DR i n) : I64 n := by unfold DR DIn at h; unfold I64; omega
theorem addD_eq (i n q : Int) (hq : I64 q) : day_Add.f i n q = some (addD i n q) := by
  unfold day_Add.f day_move_num_Add.f addD
  rw [dright_eq]
  by_cases h : DR i n
  · rw [decide_eq_true h, if_pos h]
    simp only [Option.bind_some, if_true]
    by_cases g : i = 0
    · rw [if_pos g, if_pos g, add_eq n q (dr_i64 h) hq]
      simp only [Option.bind_some]
      rw [finite_eq, madeE_out]
      rfl
    · rw [if_neg g, if_neg g]; rfl
  · rw [decide_eq_false h, if_neg h]; rfl
/-- The order of two that are each infinite or not. -/
def lex (i n j m : Int) : Int := if sgn i j = 0 then sgn n m else sgn i j
/-- A stamp that can be. -/
def DRS (i u : Int) : Prop := (i = 0 ∧ DIn (u / 86400000000)) ∨ ((i = -1 ∨ i = 1) ∧ u = 0)
instance (i u : Int) : Decidable (DRS i u) := inferInstanceAs (Decidable (_ ∨ _))
theorem drs_fin {u : Int} : DRS 0 u ↔ DIn (u / 86400000000) := by unfold DRS DIn; omega
theorem drightS_ev (i u : Int) (hu : I64 u) : Ev (fun k => day_RightStamp.f k i u) (decide (DRS i u)) := by
  unfold day_RightStamp.f
  refine Ev.bind (Ev.at1 fun k => split_eq k u hu) ?_
  simp only [Bool.and_eq_true, beq_iff_eq]
  by_cases h1 : i = -1 ∧ u = 0
  · exact Ev.pos h1 (Ev.cast (Ev.now _) (decide_eq_true (show DRS i u from .inr ⟨.inl h1.1, h1.2⟩)).symm)
  · refine Ev.neg h1 ?_
    by_cases h2 : i = 1 ∧ u = 0
    · exact Ev.pos h2 (Ev.cast (Ev.now _) (decide_eq_true (show DRS i u from .inr ⟨.inr h2.1, h2.2⟩)).symm)
    · refine Ev.neg h2 ?_
      by_cases h3 : i = 0
      · subst h3
        refine Ev.pos rfl (Ev.bind0 (inside_eq _) (Ev.cast (Ev.now _) ?_))
        exact decide_eq_decide.2 drs_fin.symm
      · refine Ev.neg h3 (Ev.cast (Ev.now _) ?_)
        rw [decide_eq_false (show ¬ DRS i u by unfold DRS; omega)]
def ofD (i u : Int) : Int × Int × Int × Int := if DRS i u then (if i = 0 then (0, u / 86400000000, u % 86400000000, 0) else (i, 0, 0, 0)) else (0, 0, 0, 1)
theorem ofD_ev (i u : Int) (hu : I64 u) : Ev (fun k => day_Of.f k i u) (ofD i u) := by
  unfold day_Of.f ofD
  refine Ev.bind (drightS_ev i u hu) ?_
  by_cases h : DRS i u
  · rw [if_pos h]
    refine Ev.pos (decide_eq_true h) ?_
    by_cases g : i = 0
    · refine Ev.pos g ?_; rw [if_pos g]; exact Ev.bind (Ev.at1 fun k => split_eq k u hu) (Ev.now _)
    · refine Ev.neg g ?_; rw [if_neg g]; exact Ev.now _
  · rw [if_neg h]
    exact Ev.neg (by rw [decide_eq_false h]; simp) (Ev.now _)
def cmpT (i u j v : Int) : Int := if DRS i u ∧ DRS j v then lex i u j v else 0
theorem cmpT_ev (i u j v : Int) (hu : I64 u) (hv : I64 v) : Ev (fun k => day_CmpStamp.f k i u j v) (cmpT i u j v) := by
  unfold day_CmpStamp.f cmpT
  refine Ev.bind (drightS_ev i u hu) ?_
  by_cases h : DRS i u
  · refine Ev.pos (decide_eq_true h) (Ev.bind (drightS_ev j v hv) (Ev.succ ?_))
    by_cases g : DRS j v
    · rw [if_pos ⟨h, g⟩, decide_eq_true g]
      simp only [day_CmpStamp.j0, Bool.not_true, Bool.false_eq_true, if_false]
      exact Ev.bind0 (cmpi_eq i j) (Ev.bind0 (cmp64_eq u v) (Ev.bind (or_ev _ _) (Ev.now _)))
    · rw [if_neg (fun f => g f.2), decide_eq_false g]
      simp only [day_CmpStamp.j0, Bool.not_false, if_true]
      exact Ev.now _
  · rw [if_neg (fun f => h f.1)]
    refine Ev.neg (by rw [decide_eq_false h]; simp) (Ev.succ ?_)
    simp only [day_CmpStamp.j0, if_true]
    exact Ev.now _
/-- A date and a time of its day as a stamp. -/
def stampD (i n t : Int) : Int × Int × Int :=
  if DR i n ∧ 0 ≤ t ∧ t ≤ 86400000000 then (if i = 0 then (if DIn ((n * 86400000000 + t) / 86400000000) then (0, n * 86400000000 + t, 0) else (0, 0, 10)) else (i, 0, 0)) else (0, 0, 1)
theorem stampD_j0 (i n t : Int) (h : DR i n ∧ 0 ≤ t ∧ t ≤ 86400000000) : Ev (fun k => day_Stamp.j0 k t false i n) (stampD i n t) := by
  obtain ⟨h, h0, h1⟩ := h
  unfold stampD
  rw [if_pos ⟨h, h0, h1⟩]
  refine Ev.succ ?_
  simp only [day_Stamp.j0, Bool.false_eq_true, if_false]
  by_cases g : i = 0
  · rw [if_pos g]
    have hn : DIn n := by subst g; exact dr_fin.1 h
    have b : -211810204800000000 ≤ n * 86400000000 ∧ n * 86400000000 ≤ 9223371244800000000 := by unfold DIn at hn; omega
    refine Ev.pos g (Ev.bind (Ev.at1 fun k => mul_eq k n 86400000000 (din_i64 hn) (by unfold I64; omega)) ?_)
    rw [out_in (z := n * 86400000000) (by unfold I64; omega)]
    refine Ev.pos rfl (Ev.bind0 (add_eq _ t (by unfold I64; omega) (by unfold I64; omega)) ?_)
    rw [out_in (z := n * 86400000000 + t) (by unfold I64; omega)]
    refine Ev.pos rfl (Ev.bind (drightS_ev 0 _ (by unfold I64; omega)) ?_)
    by_cases z : DIn ((n * 86400000000 + t) / 86400000000)
    · rw [if_pos z]
      exact Ev.pos (decide_eq_true (.inl ⟨rfl, z⟩)) (Ev.now _)
    · rw [if_neg z]
      refine Ev.neg ?_ (Ev.now _)
      rw [decide_eq_false]
      · simp
      · intro f
        rcases f with f | f
        · exact z f.2
        · omega
  · refine Ev.neg g ?_
    rw [if_neg g]
    exact Ev.now _
theorem stampD_ev (i n t : Int) : Ev (fun k => day_Stamp.f k i n t) (stampD i n t) := by
  unfold day_Stamp.f
  refine Ev.bind0 (dright_eq i n) ?_
  have no : ¬ (DR i n ∧ 0 ≤ t ∧ t ≤ 86400000000) → Ev (fun k => day_Stamp.j0 k t true i n) (stampD i n t) := by
    intro f
    unfold stampD
    rw [if_neg f]
    refine Ev.succ ?_
    simp only [day_Stamp.j0, if_true]
    exact Ev.now _
  by_cases h : DR i n
  · refine Ev.pos (decide_eq_true h) ?_
    by_cases h0 : t < 0
    · exact Ev.pos h0 (no (by omega))
    · refine Ev.neg h0 ?_
      by_cases h1 : t > 86400000000
      · rw [decide_eq_true h1]; exact no (by omega)
      · rw [decide_eq_false h1]; exact stampD_j0 i n t ⟨h, by omega, by omega⟩
  · exact Ev.neg (by rw [decide_eq_false h]; simp) (no (fun f => h f.1))
end Go.Proofs.YtimgphlfaninnaaGreat.Civ
namespace Go.Proofs.YtimgphlfaninnaaGreat.Civ
set_option linter.unusedVariables false
set_option linter.unusedSimpArgs false
open Go.RowKit Go.Proofs.YtimgphlfaninnaaGreatW.PrintWords Go.Proofs.YtimgphlfaninnaaGreatW.PrintLast Go.Proofs.YtimgphlfaninnaaGreatW.PrintMore Go.Proofs.YtimgphlfaninnaaGreat.P
/-- An interval that can be: its Inf, months, days, microseconds. -/
def SOk (i m d u : Int) : Prop :=
  (i = 0 ∧ -2147483647 ≤ m ∧ m ≤ 2147483647 ∧ -2147483647 ≤ d ∧ d ≤ 2147483647 ∧ -9223372036854775807 ≤ u ∧ u ≤ 9223372036854775807) ∨ ((i = -1 ∨ i = 1) ∧ m = 0 ∧ d = 0 ∧ u = 0)
instance (i m d u : Int) : Decidable (SOk i m d u) := inferInstanceAs (Decidable (_ ∨ _))
theorem within_eq (n : Int) : span_within.f n = some (decide (-2147483647 ≤ n ∧ n ≤ 2147483647)) := by
  unfold span_within.f
  by_cases h : n ≥ -2147483647
  · rw [if_pos h]; congr 1; apply decide_eq_decide.2; omega
  · rw [if_neg h, decide_eq_false (by omega)]
theorem zeros_iff (m d u : Int) : ((m == 0 && (d == 0 && (u == 0))) = true) ↔ (m = 0 ∧ d = 0 ∧ u = 0) := by simp
theorem sright_eq (i m d u : Int) (hu : I64 u) : span_Right.f i m d u = some (decide (SOk i m d u)) := by
  unfold span_Right.f
  by_cases h : i = 0
  · rw [if_pos h, neg_eq u hu, within_eq, within_eq]
    simp only [Option.bind_some, decide_eq_true_eq]
    have e : ((out (-u)).2 == 0) = decide (-9223372036854775807 ≤ u) := by
      unfold I64 at hu
      by_cases g : -9223372036854775807 ≤ u
      · rw [decide_eq_true g, out_in (by unfold I64; omega)]; rfl
      · rw [decide_eq_false g, out_no (by unfold I64; omega)]; rfl
    unfold I64 at hu
    by_cases h1 : -2147483647 ≤ m ∧ m ≤ 2147483647
    · rw [if_pos h1]
      by_cases h2 : -2147483647 ≤ d ∧ d ≤ 2147483647
      · rw [if_pos h2, e]; congr 1; apply decide_eq_decide.2; unfold SOk; omega
      · rw [if_neg h2, decide_eq_false (by unfold SOk; omega)]
    · rw [if_neg h1, decide_eq_false (by unfold SOk; omega)]
  · rw [if_neg h]
    by_cases h1 : m = 0 ∧ d = 0 ∧ u = 0
    · rw [if_pos ((zeros_iff m d u).2 h1)]
      by_cases h2 : i ≥ -1
      · rw [if_pos h2]; congr 1; apply decide_eq_decide.2; unfold SOk; omega
      · rw [if_neg h2, decide_eq_false (by unfold SOk; omega)]
    · rw [if_neg (fun f => h1 ((zeros_iff m d u).1 f)), decide_eq_false (by unfold SOk; omega)]
end Go.Proofs.YtimgphlfaninnaaGreat.Civ
namespace Go.Proofs.YtimgphlfaninnaaGreat.Civ
set_option linter.unusedVariables false
set_option linter.unusedSimpArgs false
open Go.RowKit Go.Proofs.YtimgphlfaninnaaGreat.P Go.Proofs.YtimgphlfaninnaaGreatW.PrintWords Go.Proofs.YtimgphlfaninnaaGreatW.PrintLast Go.Proofs.YtimgphlfaninnaaGreatW.PrintMore
theorem ymd_ex (n : Int) : ∃ t : Int × Int × Int, IsDate n t.1 t.2.1 t.2.2 := by
  obtain ⟨y, m, d, h⟩ := date_of n
  exact ⟨(y, m, d), h⟩
/-- A day's date. -/
noncomputable def ymd (n : Int) : Int × Int × Int := Classical.choose (ymd_ex n)
theorem ymd_ok (n : Int) : IsDate n (ymd n).1 (ymd n).2.1 (ymd n).2.2 := Classical.choose_spec (ymd_ex n)
theorem din_y {n : Int} (h : DIn n) : -4712 ≤ (ymd n).1 ∧ (ymd n).1 ≤ 294276 := (din_year (ymd_ok n)).2 h
/-- A day so many months on. -/
noncomputable def shN (n q : Int) : Int := dnum (shY (ymd n).1 (ymd n).2.1 q) (shM (ymd n).1 (ymd n).2.1 q) (shD (ymd n).1 (ymd n).2.1 (ymd n).2.2 q)
theorem shN_date (n q : Int) : IsDate (shN n q) (shY (ymd n).1 (ymd n).2.1 q) (shM (ymd n).1 (ymd n).2.1 q) (shD (ymd n).1 (ymd n).2.1 (ymd n).2.2 q) := by
  have h := ymd_ok n
  have b := shM_bd (ymd n).1 (ymd n).2.1 q
  have ml := mlen_bd (shY (ymd n).1 (ymd n).2.1 q) (shM (ymd n).1 (ymd n).2.1 q) b.1 b.2
  have d1 := h.d1
  refine ⟨b.1, b.2, ?_, ?_, rfl⟩ <;> unfold shD <;> split <;> omega
noncomputable def shX (n q : Int) : Option Int := if q = 0 then some n else if MonthsOk q ∧ DIn (shN n q) then some (shN n q) else none
noncomputable def shR (n q : Int) : Int × Int × Int := if MonthsOk q ∧ DIn (shN n q) then (0, shN n q, 0) else (0, 0, 10)
theorem shR_val {n q : Int} (h : DIn n) : ∃ r : Int × Int, Ev (fun k => civil_Shift.f k n q) r ∧ Ev (fun k => computusref02_Shift.f k n q) r ∧ madeE r.1 r.2 = shR n q := by
  have hd := ymd_ok n
  have hs := shN_date n q
  by_cases hk : MonthsOk q
  · have e := shift_eq hd (din_can h) hk
    refine ⟨_, Ev.at1 (fun k => e k), rshift_ev hd (din_can h) hk, ?_⟩
    unfold shR
    by_cases g : DateOk (shY (ymd n).1 (ymd n).2.1 q) (shM (ymd n).1 (ymd n).2.1 q) (shD (ymd n).1 (ymd n).2.1 (ymd n).2.2 q)
    · rw [if_pos g]
      have e1 : madeE (dnum (shY (ymd n).1 (ymd n).2.1 q) (shM (ymd n).1 (ymd n).2.1 q) (shD (ymd n).1 (ymd n).2.1 (ymd n).2.2 q), (0 : Int)).1 (dnum (shY (ymd n).1 (ymd n).2.1 q) (shM (ymd n).1 (ymd n).2.1 q) (shD (ymd n).1 (ymd n).2.1 (ymd n).2.2 q), (0 : Int)).2 = made (shN n q) := rfl
      rw [e1]
      unfold made
      by_cases g2 : DIn (shN n q)
      · rw [if_pos g2, if_pos (show MonthsOk q ∧ DIn (shN n q) from ⟨hk, g2⟩)]
      · rw [if_neg g2, if_neg (show ¬ (MonthsOk q ∧ DIn (shN n q)) from fun f => g2 f.2)]
    · rw [if_neg g, if_neg (show ¬ (MonthsOk q ∧ DIn (shN n q)) from ?_)]
      · rfl
      · intro f
        have hy := (din_year hs).2 f.2
        exact g ⟨by omega, by omega, hs.m1, hs.m12, hs.d1, hs.dl⟩
  · refine ⟨_, Ev.at1 (fun k => shift_no (.inr hk) k), rshift_no (.inr hk), ?_⟩
    unfold shR
    rw [if_neg (show ¬ (MonthsOk q ∧ DIn (shN n q)) from fun f => hk f.1)]
    rfl
theorem dsh_ev {n q : Int} (h : DIn n) : Ev (fun k => day_Shift.f k 0 n q) (shR n q) ∧ Ev (fun k => computusref15_Shift.f k 0 n q) (shR n q) := by
  obtain ⟨r, h1, h2, h3⟩ := shR_val (q := q) h
  have hR : DR 0 n := .inl ⟨rfl, h⟩
  rw [← h3]
  unfold day_Shift.f day_move_civil_Shift.f computusref15_Shift.f
  refine ⟨?_, ?_⟩
  · exact Ev.bind (Ev.bind0 (dright_eq 0 n) (Ev.pos (decide_eq_true hR) (Ev.pos rfl (Ev.bind h1 (Ev.bind0 (finite_eq _ _) (Ev.now _)))))) (Ev.now _)
  · exact Ev.bind (rdright_ev 0 n) (Ev.pos (decide_eq_true hR) (Ev.pos rfl (Ev.bind h2 (Ev.bind (rmade_ev _ _) (Ev.now _)))))
/-- An interval on, of a stamp that is finite. -/
noncomputable def addR (v q d s : Int) : Int × Int × Int :=
  match shX (v / 86400000000) q with
  | none => (0, 0, 10)
  | some x => if DIn (x + d) ∧ I64 ((x + d) * 86400000000 + v % 86400000000 + s) ∧ DRS 0 ((x + d) * 86400000000 + v % 86400000000 + s) then (0, (x + d) * 86400000000 + v % 86400000000 + s, 0) else (0, 0, 10)
theorem stamp_fin {n v : Int} (h : DIn n) : stampD 0 n (v % 86400000000) = (0, n * 86400000000 + v % 86400000000, 0) := by
  unfold stampD
  have e : (n * 86400000000 + v % 86400000000) / 86400000000 = n := by omega
  rw [if_pos ⟨.inl ⟨rfl, h⟩, by omega, by omega⟩, if_pos rfl, e, if_pos h]
theorem addD_fin {n d : Int} (h : DIn n) : addD 0 n d = made (n + d) := by
  unfold addD
  rw [if_pos (show DR 0 n from .inl ⟨rfl, h⟩), if_pos rfl]
theorem stamp_i64 {n v : Int} (h : DIn n) : I64 (n * 86400000000 + v % 86400000000) := by
  unfold DIn at h; unfold I64; omega
theorem ofD_fin {v : Int} (h : DRS 0 v) : ofD 0 v = (0, v / 86400000000, v % 86400000000, 0) := by unfold ofD; rw [if_pos h, if_pos rfl]
/-- Behind the months. -/
theorem days_end {x v q d s : Int} (h : DIn x) (hd : I64 d) : Ev (fun k => stamp_days.j1 k (v % 86400000000) 0 0 q d s 0 x) (if DIn (x + d) then (0, (x + d) * 86400000000 + v % 86400000000, 0) else (0, 0, 10)) := by
  refine Ev.succ ?_
  simp only [stamp_days.j1, if_true]
  refine Ev.bind0 (addD_eq 0 x d hd) ?_
  rw [addD_fin h]
  unfold made
  by_cases g : DIn (x + d)
  · rw [if_pos g, if_pos g]
    exact Ev.pos rfl (Ev.bind (Ev.cast (stampD_ev 0 (x + d) (v % 86400000000)) (stamp_fin g)) (Ev.now _))
  · rw [if_neg g, if_neg g]
    exact Ev.neg (by decide) (Ev.now _)
theorem days_ev {v q d s : Int} (h : DRS 0 v) (hv : I64 v) (hd : I64 d) : Ev (fun k => stamp_days.f k 0 v 0 q d s) (match shX (v / 86400000000) q with | none => (0, 0, 10) | some x => if DIn (x + d) then (0, (x + d) * 86400000000 + v % 86400000000, 0) else (0, 0, 10)) := by
  have hD := drs_fin.1 h
  unfold stamp_days.f shX
  refine Ev.bind (ofD_ev 0 v hv) ?_
  rw [ofD_fin h]
  by_cases hq : q = 0
  · rw [if_pos hq]
    refine Ev.pos hq (Ev.succ ?_)
    simp only [stamp_days.j0, Bool.false_eq_true, if_false]
    exact days_end hD hd
  · rw [if_neg hq]
    refine Ev.neg hq (Ev.succ ?_)
    simp only [stamp_days.j0, beq_self_eq_true, if_true]
    refine Ev.bind (dsh_ev hD).1 ?_
    unfold shR
    by_cases g : MonthsOk q ∧ DIn (shN (v / 86400000000) q)
    · rw [if_pos g, if_pos g]
      exact days_end g.2 hd
    · rw [if_neg g, if_neg g]
      refine Ev.succ ?_
      simp only [stamp_days.j1]
      exact Ev.neg (by decide) (Ev.now _)
theorem on_ev {w s : Int} (hw : I64 w) (hs : I64 s) : Ev (fun k => stamp_on.f k 0 w s) (if I64 (w + s) ∧ DRS 0 (w + s) then (0, w + s, 0) else (0, 0, 10)) := by
  unfold stamp_on.f
  refine Ev.bind0 (add_eq w s hw hs) ?_
  by_cases g : I64 (w + s)
  · rw [out_in g]
    refine Ev.pos rfl (Ev.bind (drightS_ev 0 (w + s) g) ?_)
    by_cases g2 : DRS 0 (w + s)
    · rw [if_pos (show I64 (w + s) ∧ DRS 0 (w + s) from ⟨g, g2⟩)]; exact Ev.pos (decide_eq_true g2) (Ev.now _)
    · rw [if_neg (show ¬ (I64 (w + s) ∧ DRS 0 (w + s)) from fun f => g2 f.2)]; exact Ev.neg (by simp [g2]) (Ev.now _)
  · rw [out_no g, if_neg (show ¬ (I64 (w + s) ∧ DRS 0 (w + s)) from fun f => g f.1)]
    exact Ev.neg (by decide) (Ev.now _)
theorem sadd_ev {v q d s : Int} (h : DRS 0 v) (hv : I64 v) (hd : I64 d) (hs : I64 s) (ho : SOk 0 q d s) : Ev (fun k => stamp_Add.f k 0 v 0 q d s) (addR v q d s) := by
  unfold stamp_Add.f
  refine Ev.bind (drightS_ev 0 v hv) (Ev.pos (decide_eq_true h) (Ev.bind0 (sright_eq 0 q d s hs) (Ev.pos (decide_eq_true ho) (Ev.neg (show ¬ wrap64 (0 * 0) < 0 by unfold wrap64; omega) (Ev.pos rfl (Ev.pos rfl (Ev.bind (days_ev h hv hd) ?_)))))))
  unfold addR
  rcases hx : shX (v / 86400000000) q with _ | x
  · simp only
    exact Ev.neg (by decide) (Ev.now _)
  · simp only
    by_cases g : DIn (x + d)
    · rw [if_pos g]
      refine Ev.pos rfl ?_
      refine Ev.cast (on_ev (stamp_i64 g) hs) ?_
      by_cases g2 : I64 ((x + d) * 86400000000 + v % 86400000000 + s) ∧ DRS 0 ((x + d) * 86400000000 + v % 86400000000 + s)
      · rw [if_pos g2, if_pos (show DIn (x + d) ∧ I64 ((x + d) * 86400000000 + v % 86400000000 + s) ∧ DRS 0 ((x + d) * 86400000000 + v % 86400000000 + s) from ⟨g, g2⟩)]
      · rw [if_neg g2, if_neg (show ¬ (DIn (x + d) ∧ I64 ((x + d) * 86400000000 + v % 86400000000 + s) ∧ DRS 0 ((x + d) * 86400000000 + v % 86400000000 + s)) from fun f => g2 f.2)]
    · rw [if_neg g, if_neg (show ¬ (DIn (x + d) ∧ I64 ((x + d) * 86400000000 + v % 86400000000 + s) ∧ DRS 0 ((x + d) * 86400000000 + v % 86400000000 + s)) from fun f => g f.1)]
      exact Ev.neg (by decide) (Ev.now _)
/-- How far apart. -/
def subR (i u j v : Int) : Int × Int × Int × Int × Int :=
  if DRS i u ∧ DRS j v then (if i ≠ 0 ∧ i = j then (0, 0, 0, 0, 10) else if i ≠ 0 then (i, 0, 0, 0, 0) else if j ≠ 0 then (-j, 0, 0, 0, 0) else
    if I64 (u - v) then (0, 0, wrap64 (Int.tdiv (u - v) 86400000000), Int.tmod (u - v) 86400000000, 0) else (0, 0, 0, 0, 10)) else (0, 0, 0, 0, 1)
theorem inf_bd {i u : Int} (h : DRS i u) : -1 ≤ i ∧ i ≤ 1 := by unfold DRS at h; omega
theorem sub17_ev {i u j v : Int} (hu : I64 u) (hv : I64 v) : Ev (fun k => stamp_Sub.f k i u j v) (subR i u j v) := by
  unfold stamp_Sub.f subR
  refine Ev.bind (drightS_ev i u hu) ?_
  by_cases h1 : DRS i u
  case neg => rw [if_neg (show ¬ (DRS i u ∧ DRS j v) from fun f => h1 f.1)]; exact Ev.neg (by simp [h1]) (Ev.now _)
  refine Ev.pos (decide_eq_true h1) (Ev.bind (drightS_ev j v hv) ?_)
  by_cases h2 : DRS j v
  case neg => rw [if_neg (show ¬ (DRS i u ∧ DRS j v) from fun f => h2 f.2)]; exact Ev.neg (by simp [h2]) (Ev.now _)
  rw [if_pos (show DRS i u ∧ DRS j v from ⟨h1, h2⟩)]
  refine Ev.pos (decide_eq_true h2) ?_
  have b1 := inf_bd h1
  have b2 := inf_bd h2
  have e1 : wrap64 (0 - j) = -j := by rw [w64 (by omega) (by omega)]; omega
  have hp : -1 ≤ i * -j ∧ i * -j ≤ 1 ∧ (i * -j < 0 ↔ i ≠ 0 ∧ i = j) := by
    have hi : i = -1 ∨ i = 0 ∨ i = 1 := by omega
    have hj : j = -1 ∨ j = 0 ∨ j = 1 := by omega
    rcases hi with rfl | rfl | rfl <;> rcases hj with rfl | rfl | rfl <;> decide
  rw [e1, w64 (x := i * -j) (by omega) (by omega)]
  by_cases h3 : i ≠ 0 ∧ i = j
  · rw [if_pos h3]; exact Ev.pos (hp.2.2.2 h3) (Ev.now _)
  rw [if_neg h3]
  refine Ev.neg (fun f => h3 (hp.2.2.1 f)) ?_
  by_cases h4 : i = 0
  case neg => rw [if_pos h4]; exact Ev.neg h4 (Ev.now _)
  rw [if_neg (show ¬ (i ≠ 0) by simpa using h4)]
  refine Ev.pos h4 ?_
  by_cases h5 : j = 0
  case neg => rw [if_pos h5]; exact Ev.neg (by omega) (Ev.now _)
  rw [if_neg (show ¬ (j ≠ 0) by simpa using h5)]
  refine Ev.pos (by omega) (Ev.bind0 (sub_eq u v hu hv) ?_)
  by_cases g : I64 (u - v)
  · rw [out_in g, if_pos g]; exact Ev.pos rfl (Ev.now _)
  · rw [out_no g, if_neg g]; exact Ev.neg (by decide) (Ev.now _)
end Go.Proofs.YtimgphlfaninnaaGreat.Civ
namespace Go.Proofs.YtimgphlfaninnaaGreat.Civ
set_option linter.unusedVariables false
set_option linter.unusedSimpArgs false
open Go.RowKit Go.Proofs.YtimgphlfaninnaaGreat.P Go.Proofs.YtimgphlfaninnaaGreatW.PrintWords Go.Proofs.YtimgphlfaninnaaGreatW.PrintLast Go.Proofs.YtimgphlfaninnaaGreatW.PrintMore
/-- A day's month, counted through. -/
noncomputable def mix (n : Int) : Int := 12 * (ymd n).1 + (ymd n).2.1
theorem mix_mono {a b : Int} (h : a ≤ b) : mix a ≤ mix b := by
  have h1 := ymd_ok a
  have h2 := ymd_ok b
  have := h1.le_of h2 h
  have a1 := h1.m1; have a2 := h1.m12; have b1 := h2.m1; have b2 := h2.m12
  unfold mix
  omega
theorem mix_lt {a b : Int} (h : mix a < mix b) : a < b := by
  rcases Int.lt_or_le a b with g | g
  · exact g
  · have := mix_mono g; omega
theorem ymd_is {n y m d : Int} (h : IsDate n y m d) : ymd n = (y, m, d) := by
  obtain ⟨h1, h2, h3⟩ := (ymd_ok n).unique h
  rw [← h1, ← h2, ← h3]
theorem mix_shift (n q : Int) : mix (shN n q) = mix n + q := by
  unfold mix
  rw [ymd_is (shN_date n q)]
  simp only
  unfold shY shM
  omega
theorem mix_bd {n : Int} (h : DIn n) : -56543 ≤ mix n ∧ mix n ≤ 3531324 := by
  have hy := din_y h
  have hd := ymd_ok n
  have := hd.m1; have := hd.m12
  unfold mix; omega
theorem shX_mix {n q x : Int} (h : shX n q = some x) : mix x = mix n + q := by
  unfold shX at h
  split at h
  · rename_i hq; simp at h; subst h; omega
  · split at h
    · simp at h; subst h; exact mix_shift n q
    · cases h
theorem shX_din {n q x : Int} (hn : DIn n) (h : shX n q = some x) : DIn x := by
  unfold shX at h
  split at h
  · simp at h; subst h; exact hn
  · split at h
    · rename_i g; simp at h; subst h; exact g.2
    · cases h
/-- So many months on, not beyond another date's month: there is such a day. -/
theorem shX_some {n a q : Int} (hn : DIn n) (ha : DIn a) (h0 : 0 ≤ q) (h : mix n + q ≤ mix a) : ∃ x, shX n q = some x := by
  unfold shX
  by_cases hq : q = 0
  · exact ⟨_, if_pos hq⟩
  · have b1 := mix_bd hn
    have b2 := mix_bd ha
    have hs := shN_date n q
    have ym : -4712 ≤ shY (ymd n).1 (ymd n).2.1 q ∧ shY (ymd n).1 (ymd n).2.1 q ≤ 294276 := by
      have y1 := din_y hn
      have y2 := din_y ha
      have d1 := ymd_ok n
      have d2 := ymd_ok a
      have := d1.m1; have := d1.m12; have := d2.m1; have := d2.m12
      unfold mix at h
      unfold shY
      omega
    exact ⟨_, by rw [if_neg hq, if_pos (show MonthsOk q ∧ DIn (shN n q) from ⟨by unfold MonthsOk; omega, (din_year hs).1 ym⟩)]⟩
/-- A stamp so many months on. -/
noncomputable def addX (v q : Int) : Option Int := (shX (v / 86400000000) q).bind fun x => some (x * 86400000000 + v % 86400000000)
theorem addR_months {v q : Int} (h : DRS 0 v) : addR v q 0 0 = match addX v q with | none => (0, 0, 10) | some x => (0, x, 0) := by
  unfold addR addX
  rcases hx : shX (v / 86400000000) q with _ | x
  · rfl
  · have hD := shX_din (drs_fin.1 h) hx
    have e0 : (x + 0) * 86400000000 + v % 86400000000 + 0 = x * 86400000000 + v % 86400000000 := by omega
    have e1 : (x * 86400000000 + v % 86400000000) / 86400000000 = x := by omega
    simp only [Option.bind_some]
    rw [e0, show x + 0 = x by omega, if_pos (show DIn x ∧ I64 (x * 86400000000 + v % 86400000000) ∧ DRS 0 (x * 86400000000 + v % 86400000000) from ⟨hD, stamp_i64 hD, drs_fin.2 (by rw [e1]; exact hD)⟩)]
theorem addX_facts {v q x : Int} (h : DRS 0 v) (hx : addX v q = some x) : DRS 0 x ∧ mix (x / 86400000000) = mix (v / 86400000000) + q ∧ I64 x ∧ x % 86400000000 = v % 86400000000 := by
  unfold addX at hx
  rcases hs : shX (v / 86400000000) q with _ | n
  · rw [hs] at hx; cases hx
  · rw [hs] at hx
    simp only [Option.bind_some, Option.some.injEq] at hx
    have hD := shX_din (drs_fin.1 h) hs
    have e1 : x / 86400000000 = n := by omega
    refine ⟨drs_fin.2 (by rw [e1]; exact hD), by rw [e1]; exact shX_mix hs, ?_, by omega⟩
    have := stamp_i64 (v := v) hD
    rw [← hx]; exact this
theorem addX_zero (v : Int) : addX v 0 = some v := by
  unfold addX shX
  rw [if_pos rfl]
  simp only [Option.bind_some]
  congr 1; omega
theorem addX_some {v u q : Int} (hv : DRS 0 v) (hu : DRS 0 u) (h0 : 0 ≤ q) (h : mix (v / 86400000000) + q ≤ mix (u / 86400000000)) : ∃ x, addX v q = some x := by
  obtain ⟨x, hx⟩ := shX_some (drs_fin.1 hv) (drs_fin.1 hu) h0 h
  exact ⟨_, by unfold addX; rw [hx]; rfl⟩
theorem mix_stamp {x u : Int} (h : mix (x / 86400000000) < mix (u / 86400000000)) : x < u := by
  have := mix_lt h; omega
/-- Months apart. -/
noncomputable def gapM (u v : Int) : Int := mix (u / 86400000000) - mix (v / 86400000000)
theorem gapM_nonneg {u v : Int} (h : v ≤ u) : 0 ≤ gapM u v := by
  have := mix_mono (show v / 86400000000 ≤ u / 86400000000 by omega)
  unfold gapM; omega
structure Aged (u v : Int) (K x : Int) : Prop where
  k0 : 0 ≤ K
  gap : K = gapM u v ∨ K = gapM u v - 1
  at_ : addX v K = some x
  le : x ≤ u
  up : ∀ y, addX v (K + 1) = some y → y > u
theorem age_ex {u v : Int} (hu : DRS 0 u) (hv : DRS 0 v) (h : v ≤ u) : ∃ K x, Aged u v K x := by
  have g0 := gapM_nonneg h
  have beyond : ∀ q y, gapM u v < q → addX v q = some y → y > u := fun q y hq hy => by
    have := (addX_facts hv hy).2.1
    unfold gapM at hq
    exact mix_stamp (by omega)
  obtain ⟨xd, hd⟩ := addX_some hv hu g0 (by unfold gapM; omega)
  by_cases hx : xd ≤ u
  · exact ⟨gapM u v, xd, g0, .inl rfl, hd, hx, fun y hy => beyond _ y (by omega) hy⟩
  · have g1 : gapM u v ≠ 0 := fun e => by
      rw [e, addX_zero] at hd
      simp at hd; omega
    obtain ⟨x, hk⟩ := addX_some (q := gapM u v - 1) hv hu (by omega) (by unfold gapM; omega)
    have hl : x < u := by
      have := (addX_facts hv hk).2.1
      exact mix_stamp (by unfold gapM at this; omega)
    refine ⟨gapM u v - 1, x, by omega, .inr rfl, hk, by omega, fun y hy => ?_⟩
    rw [show gapM u v - 1 + 1 = gapM u v by omega, hd] at hy
    simp at hy; omega
/-- Less than two years lie behind the whole months. -/
theorem aged_near {u v K x : Int} (hu : DRS 0 u) (hv : DRS 0 v) (h : Aged u v K x) : 0 ≤ u - x ∧ u - x ≤ 100000000000000 := by
  have hf := (addX_facts hv h.at_).2.1
  have hm : mix (u / 86400000000) - 1 ≤ mix (x / 86400000000) := by
    rcases h.gap with e | e <;> unfold gapM at e <;> omega
  have d1 := ymd_ok (u / 86400000000)
  have d2 := ymd_ok (x / 86400000000)
  have y1 := d1.year
  have y2 := d2.year
  have := d1.m1; have := d1.m12; have := d2.m1; have := d2.m12
  unfold mix at hm
  have hy : (ymd (u / 86400000000)).1 - 1 ≤ (ymd (x / 86400000000)).1 := by omega
  have n1 := dby_near ((ymd (u / 86400000000)).1 - 1) ((ymd (u / 86400000000)).1 + 1) (by omega)
  have n2 : dby ((ymd (u / 86400000000)).1 - 1) ≤ dby (ymd (x / 86400000000)).1 := by
    have := dby_far ((ymd (u / 86400000000)).1 - 1) (ymd (x / 86400000000)).1 hy; omega
  have := h.le
  omega
/-- Months, days, microseconds. -/
def ageS (u K x : Int) : Int × Int × Int × Int × Int := (0, K, (u - x) / 86400000000, (u - x) % 86400000000, 0)
theorem sub_aged {u v K x : Int} (hu : DRS 0 u) (hv : DRS 0 v) (h : Aged u v K x) : subR 0 u 0 x = (0, 0, (u - x) / 86400000000, (u - x) % 86400000000, 0) := by
  have n := aged_near hu hv h
  have f := addX_facts hv h.at_
  unfold subR
  rw [if_pos (show DRS 0 u ∧ DRS 0 x from ⟨hu, f.1⟩), if_neg (show ¬ ((0 : Int) ≠ 0 ∧ (0 : Int) = 0) by simp), if_neg (show ¬ ((0 : Int) ≠ 0) by simp), if_neg (show ¬ ((0 : Int) ≠ 0) by simp), if_pos (show I64 (u - x) by unfold I64; omega), td_pos n.1, tm_pos n.1, w64 (by omega) (by omega)]
theorem gap_bd {u v : Int} (hu : DRS 0 u) (hv : DRS 0 v) : -3600000 ≤ gapM u v ∧ gapM u v ≤ 3600000 := by
  have b1 := mix_bd (drs_fin.1 hu)
  have b2 := mix_bd (drs_fin.1 hv)
  unfold gapM; omega
theorem drs_i64 {u : Int} (h : DRS 0 u) : I64 u := by
  have := drs_fin.1 h
  unfold DIn at this
  unfold I64; omega
theorem i64_0 : I64 0 := by unfold I64; omega
theorem sok_m {q : Int} (h : -4000000 ≤ q ∧ q ≤ 4000000) : SOk 0 q 0 0 := by unfold SOk; omega
theorem addm_ev {v q : Int} (hv : DRS 0 v) (h : -4000000 ≤ q ∧ q ≤ 4000000) : Ev (fun k => stamp_Add.f k 0 v 0 q 0 0) (match addX v q with | none => (0, 0, 10) | some x => (0, x, 0)) :=
  Ev.cast (sadd_ev hv (drs_i64 hv) i64_0 i64_0 (sok_m h)) (addR_months hv)
theorem aged_bd {u v K x : Int} (hu : DRS 0 u) (hv : DRS 0 v) (h : Aged u v K x) : 0 ≤ K ∧ K ≤ 3600000 := by
  have := gap_bd hu hv
  have := h.k0
  rcases h.gap with e | e <;> omega
theorem ageEnd_ev {u v K x : Int} (hu : DRS 0 u) (hv : DRS 0 v) (h : Aged u v K x) : Ev (fun k => stamp_AgeEnd k 0 u 0 v K) (ageS u K x) := by
  have hb := aged_bd hu hv h
  unfold stamp_AgeEnd
  have ha := addm_ev (q := K) hv (by omega)
  rw [h.at_] at ha
  refine Ev.bind ha (Ev.pos rfl (Ev.bind (sub17_ev (drs_i64 hu) (addX_facts hv h.at_).2.2.1) ?_))
  rw [sub_aged hu hv h]
  exact Ev.now _
theorem cmp_fin {a b : Int} (ha : DRS 0 a) (hb : DRS 0 b) : cmpT 0 a 0 b = sgn a b := by
  unfold cmpT
  rw [if_pos ⟨ha, hb⟩]
  unfold lex
  rw [if_pos (sgn_eq rfl)]
/-- A round from below: it stops where one month more is too much. -/
theorem ageRnd_stop {u v K x : Int} (hu : DRS 0 u) (hv : DRS 0 v) (h : Aged u v K x) {R : Nat → Option (Int × Int × Int × Int × Int)} : Ev (fun k => stamp_AgeRnd k 0 u 0 v K (R k)) (ageS u K x) := by
  have hb := aged_bd hu hv h
  unfold stamp_AgeRnd
  rw [w64 (x := K + 1) (by omega) (by omega)]
  have ha := addm_ev (q := K + 1) hv (by omega)
  refine Ev.bind ha ?_
  rcases hx : addX v (K + 1) with _ | y
  · exact Ev.neg (by decide) (ageEnd_ev hu hv h)
  · have f := addX_facts hv hx
    refine Ev.pos rfl (Ev.bind (cmpT_ev 0 y 0 u f.2.2.1 (drs_i64 hu)) (Ev.pos ?_ (ageEnd_ev hu hv h)))
    rw [cmp_fin f.1 hu, sgn_gt (h.up y hx)]; omega
theorem ageRnd_go {u v K x : Int} (hu : DRS 0 u) (hv : DRS 0 v) (h : Aged u v K x) {R : Nat → Option (Int × Int × Int × Int × Int)} {r : Int × Int × Int × Int × Int} (hR : Ev R r) : Ev (fun k => stamp_AgeRnd k 0 u 0 v (K - 1) (R k)) r := by
  have hb := aged_bd hu hv h
  unfold stamp_AgeRnd
  rw [show K - 1 + 1 = K by omega, w64 (x := K) (by omega) (by omega)]
  have ha := addm_ev (q := K) hv (by omega)
  rw [h.at_] at ha
  have f := addX_facts hv h.at_
  refine Ev.bind ha (Ev.pos rfl (Ev.bind (cmpT_ev 0 x 0 u f.2.2.1 (drs_i64 hu)) (Ev.neg ?_ hR)))
  rw [cmp_fin f.1 hu]
  have := h.le
  unfold sgn
  split
  · omega
  · rw [if_neg (by omega)]; omega
theorem parts_fin {n : Int} (h : DIn n) : day_Parts.f 0 n = some ((ymd n).1, (ymd n).2.1, (ymd n).2.2, 0) := by
  unfold day_Parts.f
  rw [dright_eq, decide_eq_true (show DR 0 n from .inl ⟨rfl, h⟩)]
  simp only [Option.bind_some, if_true]
  rw [date_eq (ymd_ok n) (din_can h)]; rfl
theorem month1_ev {u : Int} (hu : DRS 0 u) : Ev (fun k => stamp_month1.f k 0 u) (mix (u / 86400000000)) := by
  have hD := drs_fin.1 hu
  have b := mix_bd hD
  have hy := din_y hD
  have hd := ymd_ok (u / 86400000000)
  have := hd.m1; have := hd.m12
  unfold stamp_month1.f
  refine Ev.bind (Ev.cast (ofD_ev 0 u (drs_i64 hu)) (ofD_fin hu)) (Ev.bind0 (parts_fin hD) (Ev.cast (Ev.now _) ?_))
  simp only
  rw [w64 (x := 12 * (ymd (u / 86400000000)).1) (by omega) (by omega), w64 (by omega) (by omega)]
  rfl
theorem months_ev {u v : Int} (hu : DRS 0 u) (hv : DRS 0 v) : Ev (fun k => stamp_months.f k 0 u 0 v) (if gapM u v - 1 > 0 then gapM u v - 1 else 0) := by
  have b := gap_bd hu hv
  unfold stamp_months.f
  refine Ev.bind (month1_ev hu) (Ev.bind (month1_ev hv) (Ev.cast (Ev.now _) ?_))
  unfold gapM at b ⊢
  rw [w64 (x := mix (u / 86400000000) - mix (v / 86400000000)) (by omega) (by omega), w64 (by omega) (by omega)]
/-- From below. -/
theorem ageUp_ev {u v K x : Int} (hu : DRS 0 u) (hv : DRS 0 v) (h : Aged u v K x) {R : Nat → Option (Int × Int × Int × Int × Int)} (hle : v ≤ u) : Ev (fun k => stamp_AgeG k 0 u 0 v (R k)) (ageS u K x) := by
  have g := gap_bd hu hv
  have hb := aged_bd hu hv h
  have hk := h.gap
  unfold stamp_AgeG
  refine Ev.bind (drightS_ev 0 u (drs_i64 hu)) (Ev.pos (decide_eq_true hu) (Ev.bind (drightS_ev 0 v (drs_i64 hv)) (Ev.pos (decide_eq_true hv) (Ev.pos rfl (Ev.pos rfl (Ev.bind (cmpT_ev 0 u 0 v (drs_i64 hu) (drs_i64 hv)) (Ev.neg ?_ (Ev.bind (months_ev hu hv) ?_))))))))
  · rw [cmp_fin hu hv]
    unfold sgn
    rw [if_neg (by omega)]
    split <;> omega
  · by_cases hs : K = (if gapM u v - 1 > 0 then gapM u v - 1 else 0)
    · rw [← hs]
      exact ageRnd_stop hu hv h
    · have e : (if gapM u v - 1 > 0 then gapM u v - 1 else 0) = K - 1 := by
        split at hs
        · rename_i q; rw [if_pos q]; omega
        · rename_i q; rw [if_neg q]; omega
      rw [e]
      refine ageRnd_go hu hv h ?_
      rw [show K - 1 + 1 = K by omega, w64 (x := K) (by omega) (by omega)]
      exact ageRnd_stop hu hv h (R := fun _ => none)
end Go.Proofs.YtimgphlfaninnaaGreat.Civ
namespace Go.Proofs.YtimgphlfaninnaaGreat.Pure
set_option linter.unusedVariables false
set_option linter.unusedSimpArgs false
open Go.RowKit Go.Proofs.YtimgphlfaninnaaGreat.P Go.Proofs.YtimgphlfaninnaaGreatW.PrintWords Go.Proofs.YtimgphlfaninnaaGreatW.PrintLast Go.Proofs.YtimgphlfaninnaaGreat.Civ
theorem knownM : computuslaw17_known.f = some true := rfl
theorem kn (α : Type) : Ev (fun _ => (computuslaw17_known.f).bind fun t => some t) true := by rw [knownM]; exact Ev.now _
/-- What is added comes to a stamp, or it can not be. -/
theorem addR_to {v q d s u x : Int} (hx : shX (v / 86400000000) q = some x) (e : (x + d) * 86400000000 + v % 86400000000 + s = u) : addR v q d s = (0, u, 0) ∨ addR v q d s = (0, 0, 10) := by
  unfold addR
  rw [hx]
  simp only
  rw [e]
  split
  · exact .inl rfl
  · exact .inr rfl
theorem tparts (z : Int) : Int.tdiv z 86400000000 * 86400000000 + Int.tmod z 86400000000 = z ∧ -86400000000 < Int.tmod z 86400000000 ∧ Int.tmod z 86400000000 < 86400000000 := by
  by_cases h : 0 ≤ z
  · rw [td_pos h, tm_pos h]; omega
  · obtain ⟨y, rfl⟩ : ∃ y, z = -y := ⟨-z, by omega⟩
    rw [Int.neg_tdiv, Int.neg_tmod, td_pos (by omega), tm_pos (by omega)]; omega
theorem sum_tail {u v : Int} (hu : DRS 0 u) (hv : DRS 0 v) : Ev (fun k => computuslaw17_StampSum.j1 k false 0 u 0 v) true := by
  refine Ev.succ ?_
  simp only [computuslaw17_StampSum.j1, Bool.false_eq_true, if_false]
  by_cases hlt : u < v
  · exact Ev.pos hlt (kn Int)
  refine Ev.neg hlt ?_
  obtain ⟨K, x, h⟩ := age_ex hu hv (by omega)
  have hb := aged_bd hu hv h
  have n := aged_near hu hv h
  refine Ev.bind (ageUp_ev hu hv h (by omega)) ?_
  have ha := sadd_ev (q := K) (d := (u - x) / 86400000000) (s := (u - x) % 86400000000) hv (drs_i64 hv) (by unfold I64; omega) (by unfold I64; omega) (by unfold SOk; omega)
  refine Ev.bind ha (Ev.pos rfl (Ev.pos hb.1 ?_))
  have hx := h.at_
  unfold addX at hx
  rcases hs : shX (v / 86400000000) K with _ | m
  · rw [hs] at hx; cases hx
  · rw [hs] at hx
    simp only [Option.bind_some, Option.some.injEq] at hx
    rcases addR_to (d := (u - x) / 86400000000) (s := (u - x) % 86400000000) (u := u) hs (by omega) with e | e <;> simp only [e]
    · exact Ev.pos trivial (Ev.pos (by simp) (kn Int))
    · exact Ev.neg (by decide) (kn Int)
theorem sum_j0 {u v : Int} (hu : I64 u) (hv : I64 v) : Ev (fun k => computuslaw17_StampSum.j0 k false 0 u 0 v) true := by
  refine Ev.succ ?_
  simp only [computuslaw17_StampSum.j0, Bool.false_eq_true, if_false]
  refine Ev.bind (sub17_ev hu hv) ?_
  unfold subR
  by_cases h : DRS 0 u ∧ DRS 0 v
  case neg => rw [if_neg h]; exact Ev.neg (by decide) (kn Int)
  rw [if_pos h, if_neg (show ¬ ((0 : Int) ≠ 0 ∧ (0 : Int) = 0) by simp), if_neg (show ¬ ((0 : Int) ≠ 0) by simp)]
  by_cases g : I64 (u - v)
  case neg => rw [if_neg g]; exact Ev.neg (by decide) (kn Int)
  rw [if_pos g]
  have g' := g
  unfold I64 at g'
  obtain ⟨ht, hm2, hm1⟩ := tparts (u - v)
  generalize Int.tdiv (u - v) 86400000000 = d at *
  generalize Int.tmod (u - v) 86400000000 = s at *
  rw [w64 (x := d) (by omega) (by omega)]
  have ha := sadd_ev (q := 0) (d := d) (s := s) h.2 hv (by unfold I64; omega) (by unfold I64; omega) (by unfold SOk; omega)
  refine Ev.pos rfl (Ev.bind ha ?_)
  have hx : shX (v / 86400000000) 0 = some (v / 86400000000) := by unfold shX; rw [if_pos rfl]
  rcases addR_to (d := d) (s := s) (u := u) hx (by omega) with e | e <;> simp only [e]
  · refine Ev.pos trivial ?_
    simp only [beq_self_eq_true, Bool.not_true, Bool.or_self]
    exact sum_tail h.1 h.2
  · exact Ev.neg (by decide) (sum_tail h.1 h.2)
theorem StampSum : computuslaw17_StampSum.Pure := by
  intro i u j v _ hu _ hv
  have hu := i64_of_wf hu
  have hv := i64_of_wf hv
  refine Ev.rounds ?_
  unfold computuslaw17_StampSum.f
  have out : Ev (fun k => computuslaw17_StampSum.j0 k true i u j v) true := by
    refine Ev.succ ?_
    simp only [computuslaw17_StampSum.j0, if_true]
    exact kn Int
  by_cases hi : i = 0
  case neg => exact Ev.neg hi out
  refine Ev.pos hi ?_
  by_cases hj : j = 0
  · subst hi; subst hj
    exact sum_j0 hu hv
  · rw [show (j != 0) = true by simpa using hj]
    exact out
end Go.Proofs.YtimgphlfaninnaaGreat.Pure
