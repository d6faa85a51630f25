/- Plain facts on the days of the Gregorian calendar: a date's day, leap years, months; no program in sight. -/
import Derived.Test.YthkmckmfgglafaaGreatQjmgefpchnn
import Derived.Test.YthkmckmfgglafaaGreatQdofiagjpmj
import Derived.Test.YthkmckmfgglafaaGreatQpmddhagiao
import Derived.Test.YthkmckmfgglafaaGreatQmkafekppgk
import Derived.Test.YthkmckmfgglafaaGreatQllglempoik
import Derived.Test.YthkmckmfgglafaaGreatQifdpkpnkbf
import Derived.Test.YthkmckmfgglafaaGreatQokbamfcahn
import Derived.Test.YthkmckmfgglafaaGreatQpghnpaiahj
import Derived.Test.YthkmckmfgglafaaGreatQelogbjpgan
import Derived.Test.YthkmckmfgglafaaGreatQocimmdbhal
namespace Go.Proofs.YthkmckmfgglafaaGreat.Civ
set_option linter.unusedVariables false
set_option linter.unusedSimpArgs false
/-- One if a year is a leap year. -/
def lp (y : Int) : Int := if y % 4 = 0 ∧ (y % 100 ≠ 0 ∨ y % 400 = 0) then 1 else 0
theorem lp_01 (y : Int) : 0 ≤ lp y ∧ lp y ≤ 1 := by unfold lp; split <;> omega
/-- Days from January 1, 2000 to January 1 of a year. -/
def dby (y : Int) : Int := 365 * (y - 2000) + (y - 1) / 4 - (y - 1) / 100 + (y - 1) / 400 - 484
theorem dby_succ (y : Int) : dby (y + 1) = dby y + 365 + lp y := by
  unfold dby lp; split <;> omega
theorem dby_era (y k : Int) : dby (y + 400 * k) = dby y + 146097 * k := by unfold dby; omega
/-- Between two years there are 365 days at least for each year. -/
theorem dby_far (a b : Int) (h : a ≤ b) : dby a + 365 * (b - a) ≤ dby b := by unfold dby; omega
theorem dby_near (a b : Int) (h : a ≤ b) : dby b ≤ dby a + 366 * (b - a) := by unfold dby; omega
theorem year_unique {a b n : Int} (h1 : dby a ≤ n) (h2 : n < dby (a + 1)) (h3 : dby b ≤ n) (h4 : n < dby (b + 1)) : a = b := by
  rcases Int.lt_trichotomy a b with h | h | h
  · have := dby_far (a + 1) b (by omega); omega
  · exact h
  · have := dby_far (b + 1) a (by omega); omega
/-- How many days a month has. -/
def mlen (y m : Int) : Int := if m < 1 ∨ 12 < m then 0 else if m = 2 then 28 + lp y else if m = 4 ∨ m = 6 ∨ m = 9 ∨ m = 11 then 30 else 31
/-- Days of a year ahead of a month. -/
def cum (y m : Int) : Int :=
  if m ≤ 1 then 0 else if m = 2 then 31 else
  (if m = 3 then 59 else if m = 4 then 90 else if m = 5 then 120 else if m = 6 then 151 else if m = 7 then 181 else if m = 8 then 212 else if m = 9 then 243 else if m = 10 then 273 else if m = 11 then 304 else if m = 12 then 334 else 365) + lp y
theorem twelve {m : Int} (h1 : 1 ≤ m) (h2 : m ≤ 12) : m = 1 ∨ m = 2 ∨ m = 3 ∨ m = 4 ∨ m = 5 ∨ m = 6 ∨ m = 7 ∨ m = 8 ∨ m = 9 ∨ m = 10 ∨ m = 11 ∨ m = 12 := by omega
theorem cum_succ (y m : Int) (h1 : 1 ≤ m) (h2 : m ≤ 12) : cum y (m + 1) = cum y m + mlen y m := by
  have hl := lp_01 y
  rcases twelve h1 h2 with e | e | e | e | e | e | e | e | e | e | e | e <;> subst e <;> simp [cum, mlen] <;> omega
theorem cum_end (y m : Int) (h : 12 < m) : cum y m = 365 + lp y := by
  unfold cum
  rw [if_neg (by omega), if_neg (by omega), if_neg (by omega), if_neg (by omega), if_neg (by omega), if_neg (by omega), if_neg (by omega), if_neg (by omega), if_neg (by omega), if_neg (by omega), if_neg (by omega), if_neg (by omega)]
theorem cum_one (y : Int) : cum y 1 = 0 := rfl
theorem mlen_bd (y m : Int) (h1 : 1 ≤ m) (h2 : m ≤ 12) : 28 ≤ mlen y m ∧ mlen y m ≤ 31 := by
  have hl := lp_01 y
  rcases twelve h1 h2 with e | e | e | e | e | e | e | e | e | e | e | e <;> subst e <;> simp [mlen] <;> omega
theorem mlen_out (y m : Int) (h : m < 1 ∨ 12 < m) : mlen y m = 0 := by unfold mlen; rw [if_pos h]
theorem mlen_up (y m : Int) : 0 ≤ mlen y m ∧ mlen y m ≤ 31 := by
  by_cases h : m < 1 ∨ 12 < m
  · rw [mlen_out y m h]; omega
  · have := mlen_bd y m (by omega) (by omega); omega
theorem cum_step (y a b : Int) (h1 : 1 ≤ a) (h : a < b) (h2 : b ≤ 12) : cum y a + mlen y a ≤ cum y b := by
  have hl := lp_01 y
  rcases twelve h1 (by omega) with e | e | e | e | e | e | e | e | e | e | e | e <;> subst e <;>
  rcases twelve (by omega) h2 with e | e | e | e | e | e | e | e | e | e | e | e <;> subst e <;> simp [cum, mlen] <;> omega
theorem cum_bd (y m : Int) (h1 : 1 ≤ m) (h2 : m ≤ 12) : 0 ≤ cum y m ∧ cum y m + mlen y m ≤ 365 + lp y := by
  have hl := lp_01 y
  rcases twelve h1 h2 with e | e | e | e | e | e | e | e | e | e | e | e <;> subst e <;> simp [cum, mlen] <;> omega
/-- A date's day. -/
def dnum (y m d : Int) : Int := dby y + cum y m + d - 1
/-- A day is that of a date. -/
structure IsDate (n y m d : Int) : Prop where
  m1 : 1 ≤ m
  m12 : m ≤ 12
  d1 : 1 ≤ d
  dl : d ≤ mlen y m
  num : dnum y m d = n
theorem IsDate.year {n y m d : Int} (h : IsDate n y m d) : dby y ≤ n ∧ n < dby (y + 1) := by
  have hs := dby_succ y
  have hc := cum_bd y m h.m1 h.m12
  have h1 := h.d1
  have h2 := h.dl
  have h3 := h.num
  unfold dnum at h3
  omega
theorem IsDate.unique {n y m d y' m' d' : Int} (h : IsDate n y m d) (k : IsDate n y' m' d') : y = y' ∧ m = m' ∧ d = d' := by
  have hy := h.year
  have ky := k.year
  have e : y = y' := year_unique hy.1 hy.2 ky.1 ky.2
  subst e
  have h1 := h.d1; have h2 := h.dl; have h3 := h.num; have h4 := h.m1; have h5 := h.m12
  have k1 := k.d1; have k2 := k.dl; have k3 := k.num; have k4 := k.m1; have k5 := k.m12
  unfold dnum at h3 k3
  rcases Int.lt_trichotomy m m' with hm | hm | hm
  · have := cum_step y m m' h4 hm k5; omega
  · subst hm; exact ⟨rfl, rfl, by omega⟩
  · have := cum_step y m' m k4 hm h5; omega
/-- Each day has a date. -/
theorem year_of (n : Int) : ∃ y, dby y ≤ n ∧ n < dby (y + 1) := by
  -- of a day of the first 400 years behind 2000
  have base : ∀ k : Nat, ∀ n : Int, 0 ≤ n → n < dby (2000 + k) → ∃ y, 2000 ≤ y ∧ dby y ≤ n ∧ n < dby (y + 1) := by
    intro k
    induction k with
    | zero => intro n h0 h; exfalso; have : dby (2000 + ((0 : Nat) : Int)) = 0 := by decide
              omega
    | succ k ih =>
      intro n h0 h
      by_cases g : n < dby (2000 + k)
      · exact ih n h0 g
      · exact ⟨2000 + k, by omega, by omega, by have e : (2000 + ((k + 1 : Nat) : Int)) = 2000 + k + 1 := by omega
                                                rw [e] at h; exact h⟩
  obtain ⟨y, _, h1, h2⟩ := base 400 (n % 146097) (by omega) (by have : dby (2000 + ((400 : Nat) : Int)) = 146097 := by decide
                                                                omega)
  refine ⟨y + 400 * (n / 146097), ?_, ?_⟩
  · rw [dby_era]; omega
  · rw [show y + 400 * (n / 146097) + 1 = (y + 1) + 400 * (n / 146097) by omega, dby_era]; omega
theorem month_of (y left : Int) (h0 : 0 ≤ left) (h1 : left < 365 + lp y) : ∃ m, 1 ≤ m ∧ m ≤ 12 ∧ cum y m ≤ left ∧ left < cum y m + mlen y m := by
  have key : ∀ k : Nat, k ≤ 12 → left < cum y (1 + k) → ∃ m, 1 ≤ m ∧ m ≤ 12 ∧ cum y m ≤ left ∧ left < cum y m + mlen y m := by
    intro k
    induction k with
    | zero => intro _ h; exfalso; have : cum y (1 + ((0 : Nat) : Int)) = 0 := rfl
              omega
    | succ k ih =>
      intro hk h
      by_cases g : left < cum y (1 + k)
      · exact ih (by omega) g
      · refine ⟨1 + k, by omega, by omega, by omega, ?_⟩
        rw [← cum_succ y (1 + k) (by omega) (by omega), show (1 + (k : Int) + 1) = 1 + ((k + 1 : Nat) : Int) by omega]; exact h
  refine key 12 (by omega) ?_
  rw [cum_end y _ (by omega)]; exact h1
theorem date_of (n : Int) : ∃ y m d, IsDate n y m d := by
  obtain ⟨y, h1, h2⟩ := year_of n
  have hs := dby_succ y
  obtain ⟨m, a, b, c, e⟩ := month_of y (n - dby y) (by omega) (by omega)
  exact ⟨y, m, n - dby y - cum y m + 1, a, b, by omega, by omega, by unfold dnum; omega⟩
/-- The days that can be: those of the years -4718 to 294282. -/
def CanDay (n : Int) : Prop := -2453698 ≤ n ∧ n ≤ 106754173
theorem dby_first : dby (-4718) = -2453698 := by decide
theorem dby_last : dby 294283 = 106754174 := by decide
theorem can_of_year {n y m d : Int} (h : IsDate n y m d) : CanDay n ↔ -4718 ≤ y ∧ y ≤ 294282 := by
  have hy := h.year
  have f := dby_first
  have l := dby_last
  unfold CanDay
  constructor
  · rintro ⟨h1, h2⟩
    constructor
    · rcases Int.lt_or_le y (-4718) with g | g
      · have := dby_far (y + 1) (-4718) (by omega); omega
      · exact g
    · rcases Int.lt_or_le 294282 y with g | g
      · have := dby_far 294283 y (by omega); omega
      · exact g
  · rintro ⟨h1, h2⟩
    have a := dby_far (-4718) y h1
    have b := dby_far (y + 1) 294283 (by omega)
    omega
end Go.Proofs.YthkmckmfgglafaaGreat.Civ
namespace Go.Proofs.YthkmckmfgglafaaGreat.Civ
set_option linter.unusedVariables false
set_option linter.unusedSimpArgs false
open Go.RowKit Go.Proofs.YthkmckmfgglafaaGreatW.PrintWords Go.Proofs.YthkmckmfgglafaaGreatW.PrintLast Go.Proofs.YthkmckmfgglafaaGreatW.PrintMore Go.Proofs.YthkmckmfgglafaaGreat.P
theorem floor_eq (a b : Int) (ha : I64 a) (hb : 1 < b) (hb2 : b ≤ 4611686018427387904) : civil_floor.f a b = some (a / b, a % b) := by
  have c := cut_floor a (b := b) (by omega)
  have q := ediv_i64 (b := b) ha (by omega)
  have h1 := Int.emod_nonneg a (b := b) (by omega)
  have h2 := Int.emod_lt_of_pos a (b := b) (by omega)
  unfold civil_floor.f
  rw [if_neg (by omega)]
  by_cases h : Int.tmod a b < 0
  · obtain ⟨c1, c2, _⟩ := c.1 h
    rw [if_pos h, c1, c2]
    have q2 : a / b + 1 ≤ 9223372036854775807 := by
      have : a / b ≤ 4611686018427387904 := by
        rcases Int.lt_or_le a 0 with g | g
        · have : a / b < 0 := Int.ediv_lt_of_lt_mul (by omega) (by omega)
          omega
        · have := Int.ediv_le_ediv (c := 2) (by omega) ha.2
          have h3 : a / b ≤ a / 2 := by
            rw [Int.le_ediv_iff_mul_le (by omega)]
            have e := Int.mul_ediv_add_emod a b
            have h4 := Int.emod_nonneg a (b := b) (by omega)
            have h5 : 0 ≤ a / b := Int.ediv_nonneg g (by omega)
            have h6 : a / b * 2 ≤ a / b * b := Int.mul_le_mul_of_nonneg_left (by omega) h5
            rw [Int.mul_comm b] at e
            omega
          omega
      omega
    rw [w64 (x := a / b + 1) (by omega) (by omega), w64 (by omega) (by omega), w64 (by omega) (by omega)]
    congr 2 <;> omega
  · obtain ⟨c1, c2⟩ := c.2 h
    rw [if_neg h, c1, c2, w64 q.1 q.2]
/-- A date that can be. -/
def DateOk (y m d : Int) : Prop := -4718 ≤ y ∧ y ≤ 294282 ∧ 1 ≤ m ∧ m ≤ 12 ∧ 1 ≤ d ∧ d ≤ mlen y m
instance (y m d : Int) : Decidable (DateOk y m d) := inferInstanceAs (Decidable (_ ∧ _))
theorem era_eq (y : Int) : y / 400 * 146097 + y % 400 * 365 + y % 400 / 4 - y % 400 / 100 = 365 * y + y / 4 - y / 100 + y / 400 := by omega
theorem day_eq (y m d : Int) (h1 : 1 ≤ m) (h2 : m ≤ 12) (hy : -2000000 ≤ y) (hy2 : y ≤ 2000000) (hd : -100 ≤ d) (hd2 : d ≤ 100) : civil_day.f y m d = some (dnum y m d) := by
  have hl := lp_01 y
  unfold civil_day.f
  by_cases hm : m ≤ 2
  · rw [if_pos hm, w64 (x := y - 1) (by omega) (by omega), floor_eq _ _ (by unfold I64; omega) (by omega) (by omega)]
    simp only [Option.bind_some]
    simp (disch := omega) only [w64, td_pos]
    have e := era_eq (y - 1)
    congr 1
    unfold dnum dby
    rcases (by omega : m = 1 ∨ m = 2) with e | e <;> subst e <;> simp [cum] <;> omega
  · rw [if_neg hm, floor_eq _ _ (by unfold I64; omega) (by omega) (by omega)]
    simp only [Option.bind_some]
    simp (disch := omega) only [w64, td_pos]
    have e := era_eq y
    have e2 := dby_succ y
    have e3 : dby (y + 1) = 365 * (y - 1999) + y / 4 - y / 100 + y / 400 - 484 := by unfold dby; omega
    congr 1
    unfold dnum
    have : cum y m = (153 * (m - 3) + 2) / 5 + 59 + lp y := by
      rcases (by omega : m = 3 ∨ m = 4 ∨ m = 5 ∨ m = 6 ∨ m = 7 ∨ m = 8 ∨ m = 9 ∨ m = 10 ∨ m = 11 ∨ m = 12) with e | e | e | e | e | e | e | e | e | e <;> subst e <;> simp [cum]
    omega
theorem firstday_eq : civil_First.f = some (-2453698) := by
  unfold civil_First.f
  rw [day_eq _ _ _ (by omega) (by omega) (by omega) (by omega) (by omega) (by omega)]
  rfl
theorem lastday_eq : civil_Last.f = some 106754173 := by
  unfold civil_Last.f
  rw [day_eq _ _ _ (by omega) (by omega) (by omega) (by omega) (by omega) (by omega)]
  rfl
instance (n : Int) : Decidable (CanDay n) := inferInstanceAs (Decidable (_ ∧ _))
theorem can_eq (n : Int) : civil_can.f n = some (decide (CanDay n)) := by
  unfold civil_can.f
  rw [firstday_eq]
  simp only [Option.bind_some]
  by_cases h : n ≥ -2453698
  · rw [if_pos h, lastday_eq]
    simp only [Option.bind_some]
    congr 1
    apply decide_eq_decide.2
    unfold CanDay
    omega
  · rw [if_neg h, decide_eq_false (by unfold CanDay; omega)]
theorem march {n e c f k r : Int} (hc : 0 ≤ c ∧ c ≤ 3) (hf : 0 ≤ f ∧ f ≤ 24) (hk : 0 ≤ k ∧ k ≤ 3) (hn : n + 730425 = 146097 * e + 36524 * c + 1461 * f + 365 * k + r) :
    dby (400 * e + 100 * c + 4 * f + k + 1) = n + 306 - r := by unfold dby; omega
theorem march_leap {e c f : Int} (hc : 0 ≤ c ∧ c ≤ 3) (hf : 0 ≤ f ∧ f ≤ 24) (h : f < 24 ∨ c = 3) : lp (400 * e + 100 * c + 4 * f + 3 + 1) = 1 := by
  unfold lp; rw [if_pos (by omega)]
theorem parts_eq {n y m d : Int} (h : IsDate n y m d) (hb : -2000000000 ≤ n ∧ n ≤ 2000000000) : civil_parts.f n = some (y, m, d) := by
  unfold civil_parts.f
  rw [w64 (x := n + 730425) (by omega) (by omega), floor_eq _ _ (by unfold I64; omega) (by omega) (by omega)]
  simp only [Option.bind_some]
  have hn : n + 730425 = 146097 * ((n + 730425) / 146097) + (n + 730425) % 146097 := by omega
  have h0 : 0 ≤ (n + 730425) % 146097 ∧ (n + 730425) % 146097 < 146097 := by omega
  have he : -20000 ≤ (n + 730425) / 146097 ∧ (n + 730425) / 146097 ≤ 20000 := by omega
  generalize (n + 730425) / 146097 = e at *
  generalize (n + 730425) % 146097 = r0 at *
  rw [td_pos (a := r0) h0.1, w64 (x := r0 / 36524) (by omega) (by omega)]
  have hc : 0 ≤ mn (r0 / 36524) 3 ∧ mn (r0 / 36524) 3 ≤ 3 ∧ 0 ≤ r0 - mn (r0 / 36524) 3 * 36524 ∧ r0 - mn (r0 / 36524) 3 * 36524 ≤ 36524 ∧ (r0 - mn (r0 / 36524) 3 * 36524 = 36524 → mn (r0 / 36524) 3 = 3) := by
    unfold mn; split <;> omega
  generalize mn (r0 / 36524) 3 = c at *
  obtain ⟨hc0, hc1, hc2, hc3, hc4⟩ := hc
  rw [w64 (x := c * 36524) (by omega) (by omega), w64 (x := r0 - c * 36524) (by omega) (by omega)]
  obtain ⟨r1, hr1⟩ : ∃ r1, r1 = r0 - c * 36524 := ⟨_, rfl⟩
  rw [← hr1] at hc2 hc3 hc4 ⊢
  rw [td_pos (a := r1) hc2, w64 (x := r1 / 1461) (by omega) (by omega)]
  have hf : 0 ≤ r1 / 1461 ∧ r1 / 1461 ≤ 24 ∧ 0 ≤ r1 - r1 / 1461 * 1461 ∧ r1 - r1 / 1461 * 1461 ≤ 1460 ∧ (r1 - r1 / 1461 * 1461 = 1460 → r1 / 1461 < 24 ∨ c = 3) := by omega
  generalize r1 / 1461 = f at *
  obtain ⟨hf0, hf1, hf2, hf3, hf4⟩ := hf
  rw [w64 (x := f * 1461) (by omega) (by omega), w64 (x := r1 - f * 1461) (by omega) (by omega)]
  obtain ⟨r2, hr2⟩ : ∃ r2, r2 = r1 - f * 1461 := ⟨_, rfl⟩
  rw [← hr2] at hf2 hf3 hf4 ⊢
  rw [td_pos (a := r2) hf2, w64 (x := r2 / 365) (by omega) (by omega)]
  have hk : 0 ≤ mn (r2 / 365) 3 ∧ mn (r2 / 365) 3 ≤ 3 ∧ 0 ≤ r2 - mn (r2 / 365) 3 * 365 ∧ (r2 - mn (r2 / 365) 3 * 365 ≤ 364 ∨ r2 - mn (r2 / 365) 3 * 365 = 365 ∧ r2 = 1460 ∧ mn (r2 / 365) 3 = 3) := by
    unfold mn; split <;> omega
  generalize mn (r2 / 365) 3 = k at *
  obtain ⟨hk0, hk1, hk2, hk3⟩ := hk
  rw [w64 (x := k * 365) (by omega) (by omega), w64 (x := r2 - k * 365) (by omega) (by omega)]
  obtain ⟨r3, hr3⟩ : ∃ r3, r3 = r2 - k * 365 := ⟨_, rfl⟩
  rw [← hr3] at hk2 hk3 ⊢
  have hn' : n + 730425 = 146097 * e + 36524 * c + 1461 * f + 365 * k + r3 := by omega
  have hY := march ⟨hc0, hc1⟩ ⟨hf0, hf1⟩ ⟨hk0, hk1⟩ hn'
  have hL : r3 = 365 → lp (400 * e + 100 * c + 4 * f + k + 1) = 1 := by
    intro hr
    have e1 : k = 3 := by omega
    subst e1
    exact march_leap ⟨hc0, hc1⟩ ⟨hf0, hf1⟩ (by omega)
  have hlb := lp_01 (400 * e + 100 * c + 4 * f + k + 1)
  have hY2 := dby_succ (400 * e + 100 * c + 4 * f + k)
  have h365 : r3 ≤ 365 := by omega
  clear hr1 hr2 hr3 hn' hn hk3 hf4 hc4
  rw [w64 (x := 5 * r3) (by omega) (by omega), w64 (x := 5 * r3 + 2) (by omega) (by omega), td_pos (a := 5 * r3 + 2) (by omega), w64 (x := (5 * r3 + 2) / 153) (by omega) (by omega)]
  have hm : 0 ≤ (5 * r3 + 2) / 153 ∧ (5 * r3 + 2) / 153 ≤ 11 ∧ 153 * ((5 * r3 + 2) / 153) ≤ 5 * r3 + 2 ∧ 5 * r3 + 2 < 153 * ((5 * r3 + 2) / 153) + 153 := by omega
  generalize (5 * r3 + 2) / 153 = m' at *
  obtain ⟨hm0, hm1, hm2, hm3⟩ := hm
  rw [w64 (x := e * 400) (by omega) (by omega), w64 (x := c * 100) (by omega) (by omega), w64 (x := f * 4) (by omega) (by omega), w64 (x := e * 400 + c * 100) (by omega) (by omega), w64 (x := e * 400 + c * 100 + f * 4) (by omega) (by omega), w64 (x := e * 400 + c * 100 + f * 4 + k) (by omega) (by omega)]
  rw [w64 (x := 153 * m') (by omega) (by omega), w64 (x := 153 * m' + 2) (by omega) (by omega), td_pos (a := 153 * m' + 2) (by omega), w64 (x := (153 * m' + 2) / 5) (by omega) (by omega), w64 (x := r3 - (153 * m' + 2) / 5) (by omega) (by omega), w64 (x := r3 - (153 * m' + 2) / 5 + 1) (by omega) (by omega)]
  have ey : e * 400 + c * 100 + f * 4 + k = 400 * e + 100 * c + 4 * f + k := by omega
  rw [ey]
  have hyb : -9000000 ≤ 400 * e + 100 * c + 4 * f + k ∧ 400 * e + 100 * c + 4 * f + k ≤ 9000000 := by omega
  clear ey hc0 hc1 hc2 hc3 hf0 hf1 hf2 hf3 hk0 hk1 he h0
  generalize 400 * e + 100 * c + 4 * f + k = Y at *
  by_cases hge : m' ≥ 10
  · rw [if_pos hge, w64 (x := Y + 1) (by omega) (by omega), w64 (x := m' - 9) (by omega) (by omega)]
    have key : IsDate n (Y + 1) (m' - 9) (r3 - (153 * m' + 2) / 5 + 1) := by
      rcases (by omega : m' = 10 ∨ m' = 11) with e1 | e1 <;> subst e1
      · exact ⟨by omega, by omega, by omega, by simp [mlen]; omega, by simp [dnum, cum]; omega⟩
      · refine ⟨by omega, by omega, by omega, ?_, by simp [dnum, cum]; omega⟩
        simp only [mlen]
        by_cases g : r3 = 365
        · rw [hL g, g]; decide
        · rw [if_neg (by omega), if_pos (by omega)]; omega
    obtain ⟨rfl, rfl, rfl⟩ := h.unique key
    rfl
  · rw [if_neg hge, w64 (x := m' + 3) (by omega) (by omega)]
    have key : IsDate n Y (m' + 3) (r3 - (153 * m' + 2) / 5 + 1) := by
      rcases (by omega : m' = 0 ∨ m' = 1 ∨ m' = 2 ∨ m' = 3 ∨ m' = 4 ∨ m' = 5 ∨ m' = 6 ∨ m' = 7 ∨ m' = 8 ∨ m' = 9) with e1 | e1 | e1 | e1 | e1 | e1 | e1 | e1 | e1 | e1 <;> subst e1 <;>
        exact ⟨by omega, by omega, by omega, by simp [mlen]; omega, by simp [dnum, cum]; omega⟩
    obtain ⟨rfl, rfl, rfl⟩ := h.unique key
    rfl
theorem date_eq {n y m d : Int} (h : IsDate n y m d) (hc : CanDay n) : civil_Date.f n = some (y, m, d, 0) := by
  unfold civil_Date.f
  rw [can_eq]
  simp only [Option.bind_some, decide_eq_true_eq]
  have hc' := hc
  unfold CanDay at hc'
  rw [if_pos hc, parts_eq h (by omega)]
  rfl
theorem date_no {n : Int} (hc : ¬ CanDay n) : civil_Date.f n = some (0, 0, 0, 10) := by
  unfold civil_Date.f
  rw [can_eq]
  simp only [Option.bind_some, decide_eq_true_eq]
  rw [if_neg hc]
end Go.Proofs.YthkmckmfgglafaaGreat.Civ
namespace Go.Proofs.YthkmckmfgglafaaGreat.Civ
set_option linter.unusedVariables false
set_option linter.unusedSimpArgs false
open Go.RowKit Go.Proofs.YthkmckmfgglafaaGreatW.PrintWords Go.Proofs.YthkmckmfgglafaaGreatW.PrintLast Go.Proofs.YthkmckmfgglafaaGreatW.PrintMore Go.Proofs.YthkmckmfgglafaaGreat.P
theorem rmod_eq (a b : Int) (hb : 0 < b) (hb2 : b ≤ 4611686018427387904) : computusref02_mod.f a b = some (a % b) := by
  have c := cut_floor a (b := b) (by omega)
  have h1 := Int.emod_nonneg a (b := b) (by omega)
  have h2 := Int.emod_lt_of_pos a (b := b) (by omega)
  unfold computusref02_mod.f
  rw [if_neg (by omega)]
  by_cases h : Int.tmod a b < 0
  · obtain ⟨c1, c2, _⟩ := c.1 h
    rw [if_pos h, c2, w64 (by omega) (by omega)]
    congr 1; omega
  · obtain ⟨c1, c2⟩ := c.2 h
    rw [if_neg h, c2]
theorem rdiv_eq (a b : Int) (ha : I64 a) (hb : 1 < b) (hb2 : b ≤ 4611686018427387904) : computusref02_div.f a b = some (a / b) := by
  have e := floor_eq a b ha hb hb2
  unfold civil_floor.f at e
  unfold computusref02_div.f
  rw [if_neg (by omega)] at e ⊢
  by_cases h : Int.tmod a b < 0
  · rw [if_pos h] at e ⊢; injection e with e; injection e with e1 _; rw [e1]
  · rw [if_neg h] at e ⊢; injection e with e; injection e with e1 _; rw [e1]
theorem rleap_eq (y : Int) : computusref02_Leap.f y = some (decide (lp y = 1)) := by
  unfold computusref02_Leap.f
  rw [rmod_eq _ _ (by omega) (by omega), rmod_eq _ _ (by omega) (by omega), rmod_eq _ _ (by omega) (by omega)]
  simp only [Option.bind_some]
  have e : (y % 400 == 0) = decide (y % 400 = 0) := rfl
  rw [e]
  unfold lp
  by_cases h1 : y % 4 = 0
  · rw [if_pos h1]
    by_cases h2 : y % 100 = 0
    · rw [if_pos h2]
      by_cases h3 : y % 400 = 0 <;> simp [h1, h2, h3]
    · rw [if_neg h2]; simp [h1, h2]
  · rw [if_neg h1]; simp [h1]
theorem rlen_eq (k : Nat) (y m : Int) : computusref02_Len.f (k + 2) y m = some (mlen y m) := by
  have hl := lp_01 y
  by_cases h : m < 1 ∨ 12 < m
  · rw [mlen_out y m h]
    unfold computusref02_Len.f
    rw [if_neg (by omega), if_neg (by omega), if_neg (by omega), if_neg (by omega), if_neg (by omega), if_neg (by omega), beq_eq_false_iff_ne.2 (by omega : m ≠ 12)]
    simp only [computusref02_Len.j0]
    rw [if_neg (by simp), if_neg (by omega), if_neg (by omega), if_neg (by omega), beq_eq_false_iff_ne.2 (by omega : m ≠ 11)]
    simp only [computusref02_Len.j1]
    rw [if_neg (by simp), if_neg (by omega)]
  · rcases twelve (m := m) (by omega) (by omega) with e | e | e | e | e | e | e | e | e | e | e | e <;> subst e <;> simp [computusref02_Len.f, computusref02_Len.j0, computusref02_Len.j1, mlen, rleap_eq]
    by_cases h3 : lp y = 1
    · rw [if_pos h3, h3]; rfl
    · rw [if_neg h3, show lp y = 0 by omega]; rfl
theorem rlen_ev (y m : Int) : Ev (fun k => computusref02_Len.f k y m) (mlen y m) := Ev.at2 fun k => rlen_eq k y m
theorem rright_eq (k : Nat) (y m d : Int) : computusref02_Right.f (k + 2) y m d = some (decide (DateOk y m d)) := by
  unfold computusref02_Right.f
  rw [rlen_eq]
  by_cases h1 : y ≥ -4718
  · rw [if_pos h1]
    by_cases h2 : y ≤ 294282
    · rw [if_pos h2]
      by_cases h4 : m ≥ 1
      · rw [if_pos h4]
        by_cases h5 : m ≤ 12
        · rw [if_pos h5]
          by_cases h3 : d ≥ 1
          · rw [if_pos h3]
            simp only [Option.bind_some]
            congr 1
            apply decide_eq_decide.2
            unfold DateOk
            omega
          · rw [if_neg h3, decide_eq_false (by unfold DateOk; omega)]
        · rw [if_neg h5, decide_eq_false (by unfold DateOk; omega)]
      · rw [if_neg h4, decide_eq_false (by unfold DateOk; omega)]
    · rw [if_neg h2, decide_eq_false (by unfold DateOk; omega)]
  · rw [if_neg h1, decide_eq_false (by unfold DateOk; omega)]
theorem rright_ev (y m d : Int) : Ev (fun k => computusref02_Right.f k y m d) (decide (DateOk y m d)) := Ev.at2 fun k => rright_eq k y m d
theorem rstart_loop (y : Int) (hy : -100000000 ≤ y ∧ y ≤ 100000000) (d : Nat) : ∀ i n : Int, 0 ≤ i → i ≤ (y - 2000) % 400 → (y - 2000) % 400 - i = d → n = dby (2000 + i) + 146097 * ((y - 2000) / 400) →
    Ev (fun k => computusref02_start.l0 k y n i) (dby y) := by
  induction d with
  | zero =>
    intro i n h0 h1 hd hn
    refine Ev.at1 fun k => ?_
    simp only [computusref02_start.l0]
    rw [w64 (by omega) (by omega), rmod_eq _ _ (by omega) (by omega)]
    simp only [Option.bind_some]
    rw [if_neg (by omega)]
    congr 1
    rw [hn, ← dby_era, show 2000 + i + 400 * ((y - 2000) / 400) = y by omega]
  | succ d ih =>
    intro i n h0 h1 hd hn
    have hs := dby_succ (2000 + i)
    have hb : -1000000 ≤ dby (2000 + i) ∧ dby (2000 + i) ≤ 1000000 := by
      have a := dby_far 2000 (2000 + i) (by omega)
      have b := dby_near 2000 (2000 + i) (by omega)
      have c : dby 2000 = 0 := by decide
      omega
    have hl := lp_01 (2000 + i)
    refine Ev.step (f := fun k => computusref02_start.l0 k y (n + 365 + lp (2000 + i)) (i + 1)) (fun k => ?_) (ih (i + 1) _ (by omega) (by omega) (by omega) ?_)
    · simp only [computusref02_start.l0]
      rw [w64 (x := y - 2000) (by omega) (by omega), rmod_eq _ _ (by omega) (by omega)]
      simp only [Option.bind_some]
      rw [if_pos (by omega), w64 (x := 2000 + i) (by omega) (by omega), rleap_eq]
      simp only [Option.bind_some, decide_eq_true_eq]
      rw [w64 (x := i + 1) (by omega) (by omega), w64 (x := n + 365) (by omega) (by omega)]
      by_cases hp : lp (2000 + i) = 1
      · rw [if_pos hp, w64 (by omega) (by omega), hp]
      · rw [if_neg hp, show lp (2000 + i) = 0 by omega, Int.add_zero]
    · rw [show 2000 + (i + 1) = 2000 + i + 1 by omega, hs]; omega
theorem rstart_ev (y : Int) (hy : -100000000 ≤ y ∧ y ≤ 100000000) : Ev (fun k => computusref02_start.f k y) (dby y) := by
  unfold computusref02_start.f
  rw [w64 (by omega) (by omega), rdiv_eq _ _ (by unfold I64; omega) (by omega) (by omega)]
  simp only [Option.bind_some]
  refine rstart_loop y hy ((y - 2000) % 400).toNat 0 _ (by omega) (by omega) (by omega) ?_
  rw [w64 (by omega) (by omega)]
  have c : dby (2000 + 0) = 0 := by decide
  omega
theorem rday_loop (y m : Int) (hm : m ≤ 12) (d : Nat) : ∀ i n : Int, 1 ≤ i → i ≤ m → m - i = d → -1000000000000 ≤ n ∧ n ≤ 1000000000000 + 31 * i →
    Ev (fun k => computusref02_day.l0 k y m n i) (n + cum y m - cum y i) := by
  induction d with
  | zero =>
    intro i n h0 h1 hd hn
    refine Ev.at1 fun k => ?_
    simp only [computusref02_day.l0]
    rw [if_neg (by omega)]
    congr 1
    have : i = m := by omega
    subst this; omega
  | succ d ih =>
    intro i n h0 h1 hd hn
    have hc := cum_succ y i h0 (by omega)
    have hl := mlen_bd y i h0 (by omega)
    refine Ev.step (f := fun k => (computusref02_Len.f k y i).bind fun t => computusref02_day.l0 k y m (wrap64 (n + t)) (wrap64 (i + 1))) (fun k => ?_) (Ev.bind (rlen_ev y i) ?_)
    · simp only [computusref02_day.l0]
      rw [if_pos (by omega)]
    · rw [w64 (x := n + mlen y i) (by omega) (by omega), w64 (x := i + 1) (by omega) (by omega)]
      exact Ev.cast (ih (i + 1) _ (by omega) (by omega) (by omega) (by omega)) (by omega)
theorem dby_bd (y : Int) (hy : -100000000 ≤ y ∧ y ≤ 100000000) : -40000000000 ≤ dby y ∧ dby y ≤ 40000000000 := by
  have c : dby 2000 = 0 := by decide
  rcases Int.le_total y 2000 with h | h
  · have a := dby_far y 2000 h
    have b := dby_near y 2000 h
    omega
  · have a := dby_far 2000 y h
    have b := dby_near 2000 y h
    omega
theorem rday_ev (y m d : Int) (hy : -100000000 ≤ y ∧ y ≤ 100000000) (h1 : 1 ≤ m) (h2 : m ≤ 12) (hd : -1000 ≤ d ∧ d ≤ 1000) : Ev (fun k => computusref02_day.f k y m d) (dnum y m d) := by
  have hb := dby_bd y hy
  unfold computusref02_day.f
  refine Ev.bind (rstart_ev y hy) ?_
  rw [w64 (x := dby y + d) (by omega) (by omega), w64 (by omega) (by omega)]
  refine Ev.cast (rday_loop y m h2 (m - 1).toNat 1 _ (by omega) (by omega) (by omega) (by omega)) ?_
  unfold dnum
  rw [cum_one]; omega
theorem rfirst_ev : Ev (fun k => computusref02_First.f k) (-2453698) := by
  unfold computusref02_First.f
  exact Ev.bind (rday_ev _ _ _ (by omega) (by omega) (by omega) (by omega)) (Ev.now _)
theorem rlast_ev : Ev (fun k => computusref02_Last.f k) 106754173 := by
  unfold computusref02_Last.f
  exact Ev.bind (rday_ev _ _ _ (by omega) (by omega) (by omega) (by omega)) (Ev.now _)
theorem rcan_ev (n : Int) : Ev (fun k => computusref02_Can.f k n) (decide (CanDay n)) := by
  unfold computusref02_Can.f
  refine Ev.bind rfirst_ev ?_
  by_cases h : n ≥ -2453698
  · simp only [if_pos h]
    refine Ev.bind rlast_ev ?_
    have e : decide (n ≤ 106754173) = decide (CanDay n) := decide_eq_decide.2 (by unfold CanDay; omega)
    rw [e]; exact Ev.now _
  · simp only [if_neg h]
    rw [decide_eq_false (by unfold CanDay; omega : ¬ CanDay n)]; exact Ev.now _
theorem rdays_ev (y m d : Int) : Ev (fun k => computusref02_Days.f k y m d) (if DateOk y m d then (dnum y m d, 0) else (0, 10)) := by
  unfold computusref02_Days.f
  refine Ev.bind (rright_ev y m d) ?_
  simp only [decide_eq_true_eq]
  by_cases h : DateOk y m d
  · simp only [if_pos h]
    have hl := mlen_up y m
    unfold DateOk at h
    exact Ev.bind (rday_ev y m d (by omega) (by omega) (by omega) (by omega)) (Ev.now _)
  · simp only [if_neg h]; exact Ev.now _
theorem rdate_months (y : Int) (left : Int) (m d : Int) (h12 : m ≤ 12) (hd0 : 1 ≤ d) (hd1 : d ≤ mlen y m) (j : Nat) : ∀ i l : Int, 1 ≤ i → i ≤ m → m - i = j → l = cum y m + d - 1 - cum y i →
    Ev (fun k => computusref02_Date.l1 k y l i) (y, m, d, 0) := by
  induction j with
  | zero =>
    intro i l h0 h1 hj hl
    have e : i = m := by omega
    subst e
    refine Ev.step (f := fun k => (computusref02_Len.f k y i).bind fun t => if l ≥ t then (computusref02_Len.f k y i).bind fun t' => computusref02_Date.l1 k y (wrap64 (l - t')) (wrap64 (i + 1)) else some (y, i, wrap64 (l + 1), 0)) (fun k => by simp only [computusref02_Date.l1]) (Ev.bind (rlen_ev y i) ?_)
    have hb := mlen_bd y i h0 h12
    simp only [if_neg (show ¬ l ≥ mlen y i by omega)]
    rw [w64 (by omega) (by omega), show l + 1 = d by omega]
    exact Ev.now _
  | succ j ih =>
    intro i l h0 h1 hj hl
    have hb := mlen_bd y i h0 (by omega)
    have hb2 := mlen_bd y m (by omega) h12
    have hcm := cum_bd y m (by omega) h12
    have hci := cum_bd y i h0 (by omega)
    have hlp := lp_01 y
    have hst := cum_step y i m h0 (by omega) h12
    have hs := cum_succ y i h0 (by omega)
    refine Ev.step (f := fun k => (computusref02_Len.f k y i).bind fun t => if l ≥ t then (computusref02_Len.f k y i).bind fun t' => computusref02_Date.l1 k y (wrap64 (l - t')) (wrap64 (i + 1)) else some (y, i, wrap64 (l + 1), 0)) (fun k => by simp only [computusref02_Date.l1]) (Ev.bind (rlen_ev y i) ?_)
    simp only [if_pos (show l ≥ mlen y i by omega)]
    refine Ev.bind (rlen_ev y i) ?_
    rw [w64 (x := l - mlen y i) (by omega) (by omega), w64 (x := i + 1) (by omega) (by omega)]
    exact ih (i + 1) _ (by omega) (by omega) (by omega) (by omega)
theorem rdate_years {n y m d : Int} (h : IsDate n y m d) (hy : -100000000 ≤ y ∧ y ≤ 100000000) (j : Nat) : ∀ i l : Int, i ≤ y → -200000000 ≤ i → y - i = j → dby i + l = n → l ≤ 10000000 →
    Ev (fun k => computusref02_Date.l0 k i l) (y, m, d, 0) := by
  have hh := h.year
  have hs := dby_succ y
  have hl := lp_01 y
  have hm := h.m1
  have hm2 := h.m12
  have hnum := h.num
  unfold dnum at hnum
  have hcm := cum_bd y m hm hm2
  induction j with
  | zero =>
    intro i l h0 h00 hj hn hle
    have e : i = y := by omega
    subst e
    refine Ev.step (f := fun k => computusref02_Date.j1 k i l) (fun k => ?_) (Ev.step (f := fun k => computusref02_Date.l1 k i l 1) (fun k => by simp only [computusref02_Date.j1]) (rdate_months i l m d hm2 h.d1 h.dl (m - 1).toNat 1 l (by omega) hm (by omega) (by rw [cum_one]; omega)))
    simp only [computusref02_Date.l0]
    rw [rleap_eq]
    simp only [Option.bind_some, decide_eq_true_eq]
    by_cases hp : lp i = 1
    · rw [if_pos hp, if_pos (by omega)]
    · rw [if_neg hp, if_pos (by omega)]
  | succ j ih =>
    intro i l h0 h00 hj hn hle
    have hsi := dby_succ i
    have hli := lp_01 i
    have hf := dby_far (i + 1) y (by omega)
    refine Ev.step (f := fun k => computusref02_Date.l0 k (i + 1) (l - 365 - lp i)) (fun k => ?_) (ih (i + 1) _ (by omega) (by omega) (by omega) (by omega) (by omega))
    simp only [computusref02_Date.l0]
    rw [rleap_eq]
    simp only [Option.bind_some, decide_eq_true_eq]
    by_cases hp : lp i = 1
    · rw [if_pos hp, if_neg (by omega), w64 (x := i + 1) (by omega) (by omega), w64 (x := l - 366) (by omega) (by omega), show l - 366 = l - 365 - lp i by omega]
    · rw [if_neg hp, if_neg (by omega), w64 (x := i + 1) (by omega) (by omega), w64 (x := l - 365) (by omega) (by omega), show lp i = 0 by omega, Int.sub_zero]
theorem rdate_ev {n y m d : Int} (h : IsDate n y m d) (hc : CanDay n) : Ev (fun k => computusref02_Date.f k n) (y, m, d, 0) := by
  have hy := (can_of_year h).1 hc
  have hyr := h.year
  unfold computusref02_Date.f
  refine Ev.bind (rcan_ev n) ?_
  simp only [decide_eq_true_eq, if_pos hc]
  unfold CanDay at hc
  rw [rdiv_eq _ _ (by unfold I64; omega) (by omega) (by omega), rmod_eq _ _ (by omega) (by omega)]
  simp only [Option.bind_some]
  rw [w64 (x := n / 146097 * 400) (by omega) (by omega), w64 (by omega) (by omega)]
  have e : dby (2000 + n / 146097 * 400) = n / 146097 * 146097 := by
    have := dby_era 2000 (n / 146097)
    have c : dby 2000 = 0 := by decide
    rw [show 2000 + n / 146097 * 400 = 2000 + 400 * (n / 146097) by omega, this, c]; omega
  have hle : 2000 + n / 146097 * 400 ≤ y := by
    rcases Int.lt_or_le y (2000 + n / 146097 * 400) with g | g
    · have := dby_far (y + 1) (2000 + n / 146097 * 400) (by omega)
      omega
    · exact g
  exact rdate_years h (by omega) (y - (2000 + n / 146097 * 400)).toNat _ _ hle (by omega) (by omega) (by rw [e]; omega) (by omega)
theorem rdate_no {n : Int} (hc : ¬ CanDay n) : Ev (fun k => computusref02_Date.f k n) (0, 0, 0, 10) := by
  unfold computusref02_Date.f
  refine Ev.bind (rcan_ev n) ?_
  simp only [decide_eq_true_eq, if_neg hc]
  exact Ev.now _
end Go.Proofs.YthkmckmfgglafaaGreat.Civ
namespace Go.Proofs.YthkmckmfgglafaaGreat.Civ
set_option linter.unusedVariables false
set_option linter.unusedSimpArgs false
open Go.RowKit Go.Proofs.YthkmckmfgglafaaGreatW.PrintWords Go.Proofs.YthkmckmfgglafaaGreatW.PrintLast Go.Proofs.YthkmckmfgglafaaGreatW.PrintMore Go.Proofs.YthkmckmfgglafaaGreat.P
theorem u64m (x : Int) : IntKind.u64.wrap x = x % 18446744073709551616 := by simp [IntKind.wrap, IntKind.bits, IntKind.signed]
theorem u64w {x : Int} (h1 : 0 ≤ x) (h2 : x ≤ 18446744073709551615) : IntKind.u64.wrap x = x := by rw [u64m]; omega
theorem wraps_u64 (n : Int) (h₀ : 0 ≤ n) (h₁ : n < 2 ^ 64) : IntKind.u64.wrap n = n := by rw [u64m]; omega
theorem and32 {x : Int} (h1 : 0 ≤ x) (h2 : x ≤ 18446744073709551615) : Go.bits .and .u64 x 4294967295 = x % 4294967296 :=
  bits_mask .u64 64 (by decide) wraps_u64 32 (by decide) x h1 (by omega)
/-- Two parts that do not overlap. -/
theorem orj (i : Nat) (hi : i ≤ 63) {x y : Int} (hx0 : 0 ≤ x) (hx : x % 2 ^ i = 0) (hx1 : x ≤ 18446744073709551615) (hy0 : 0 ≤ y) (hy : y < 2 ^ i) : Go.bits .or .u64 x y = x + y := by
  refine bits_join .u64 64 (by decide) wraps_u64 i x y hx0 hx (by omega) hy0 hy ?_
  have : (2 : Int) ^ i ≤ 2 ^ 63 := by exact_mod_cast Nat.pow_le_pow_right (by decide) hi
  omega
/-- Its six parts. -/
def dig (n : Int) : List Int := [n % 4294967296, n / 4294967296 % 4294967296, n / 4294967296 / 4294967296 % 4294967296, n / 4294967296 / 4294967296 / 4294967296 % 4294967296, n / 4294967296 / 4294967296 / 4294967296 / 4294967296 % 4294967296, n / 4294967296 / 4294967296 / 4294967296 / 4294967296 / 4294967296 % 4294967296]
theorem part_bd (x : Int) : 0 ≤ x % 4294967296 ∧ x % 4294967296 < 4294967296 := by omega
theorem part_eq (x : Int) : x = x % 4294967296 + 4294967296 * (x / 4294967296) := by omega
theorem dig_form {a : Int} (h0 : 0 ≤ a) (h1 : a < 6277101735386680763835789423207666416102355444464034512896) : ∃ a0 a1 a2 a3 a4 a5, dig a = [a0, a1, a2, a3, a4, a5] ∧ ((0 ≤ a0 ∧ a0 < 4294967296) ∧ (0 ≤ a1 ∧ a1 < 4294967296) ∧ (0 ≤ a2 ∧ a2 < 4294967296) ∧ (0 ≤ a3 ∧ a3 < 4294967296) ∧ (0 ≤ a4 ∧ a4 < 4294967296) ∧ (0 ≤ a5 ∧ a5 < 4294967296)) ∧ a = a0 + 4294967296 * (a1 + 4294967296 * (a2 + 4294967296 * (a3 + 4294967296 * (a4 + 4294967296 * (a5))))) := by
  refine ⟨_, _, _, _, _, _, rfl, ⟨part_bd _, part_bd _, part_bd _, part_bd _, part_bd _, part_bd _⟩, ?_⟩
  have e : a / 4294967296 / 4294967296 / 4294967296 / 4294967296 / 4294967296 % 4294967296 = a / 4294967296 / 4294967296 / 4294967296 / 4294967296 / 4294967296 := by
    have h : a / 4294967296 / 4294967296 / 4294967296 / 4294967296 / 4294967296 = a / 1461501637330902918203684832716283019655932542976 := by omega
    omega
  rw [e, ← part_eq, ← part_eq, ← part_eq, ← part_eq, ← part_eq]
theorem part_lo {x y : Int} (h : 0 ≤ x ∧ x < 4294967296) : (x + 4294967296 * y) % 4294967296 = x ∧ (x + 4294967296 * y) / 4294967296 = y := by omega
theorem dig_of {a : Int} {a0 a1 a2 a3 a4 a5 : Int} (h : (0 ≤ a0 ∧ a0 < 4294967296) ∧ (0 ≤ a1 ∧ a1 < 4294967296) ∧ (0 ≤ a2 ∧ a2 < 4294967296) ∧ (0 ≤ a3 ∧ a3 < 4294967296) ∧ (0 ≤ a4 ∧ a4 < 4294967296) ∧ (0 ≤ a5 ∧ a5 < 4294967296)) (e : a = a0 + 4294967296 * (a1 + 4294967296 * (a2 + 4294967296 * (a3 + 4294967296 * (a4 + 4294967296 * (a5)))))) : dig a = [a0, a1, a2, a3, a4, a5] := by
  obtain ⟨h0, h1, h2, h3, h4, h5⟩ := h
  have h6 : a5 % 4294967296 = a5 := by omega
  unfold dig
  rw [e]
  simp only [(part_lo h0).1, (part_lo h0).2, (part_lo h1).1, (part_lo h1).2, (part_lo h2).1, (part_lo h2).2, (part_lo h3).1, (part_lo h3).2, (part_lo h4).1, (part_lo h4).2, h6]
theorem dig_zero : dig 0 = List.replicate 6 0 := rfl
theorem dig_length (a : Int) : (dig a).length = 6 := rfl
theorem hv_bd {a0 a1 a2 a3 a4 a5 : Int} (h : (0 ≤ a0 ∧ a0 < 4294967296) ∧ (0 ≤ a1 ∧ a1 < 4294967296) ∧ (0 ≤ a2 ∧ a2 < 4294967296) ∧ (0 ≤ a3 ∧ a3 < 4294967296) ∧ (0 ≤ a4 ∧ a4 < 4294967296) ∧ (0 ≤ a5 ∧ a5 < 4294967296)) : 0 ≤ a0 + 4294967296 * (a1 + 4294967296 * (a2 + 4294967296 * (a3 + 4294967296 * (a4 + 4294967296 * (a5))))) ∧ a0 + 4294967296 * (a1 + 4294967296 * (a2 + 4294967296 * (a3 + 4294967296 * (a4 + 4294967296 * (a5))))) < 6277101735386680763835789423207666416102355444464034512896 := by
  obtain ⟨h0, h1, h2, h3, h4, h5⟩ := h
  have g4 : 0 ≤ a4 + 4294967296 * a5 ∧ a4 + 4294967296 * a5 < 18446744073709551616 := by omega
  generalize a4 + 4294967296 * a5 = x4 at *
  have g3 : 0 ≤ a3 + 4294967296 * x4 ∧ a3 + 4294967296 * x4 < 79228162514264337593543950336 := by omega
  generalize a3 + 4294967296 * x4 = x3 at *
  have g2 : 0 ≤ a2 + 4294967296 * x3 ∧ a2 + 4294967296 * x3 < 340282366920938463463374607431768211456 := by omega
  generalize a2 + 4294967296 * x3 = x2 at *
  have g1 : 0 ≤ a1 + 4294967296 * x2 ∧ a1 + 4294967296 * x2 < 1461501637330902918203684832716283019655932542976 := by omega
  generalize a1 + 4294967296 * x2 = x1 at *
  omega
theorem mod_of {x D c : Int} (h : x = D + 6277101735386680763835789423207666416102355444464034512896 * c) (h0 : 0 ≤ D ∧ D < 6277101735386680763835789423207666416102355444464034512896) : x % 6277101735386680763835789423207666416102355444464034512896 = D := by omega
theorem add_next (k : Nat) {x0 x1 x5 : List Int} {c i u v : Int} (h0 : 0 ≤ i) (h6 : i < 6) (l0 : x0.length = 6) (l1 : x1.length = 6) (l5 : x5.length = 6) (hc : 0 ≤ c ∧ c ≤ 1)
    (hu : rd x0 i = u) (hv : rd x1 i = v) (ub : 0 ≤ u ∧ u < 4294967296) (vb : 0 ≤ v ∧ v < 4294967296) :
    ∃ d c', computusref01_add.l0 (k + 1) x0 x1 x5 c i = computusref01_add.l0 k x0 x1 (x5.set i.toNat d) c' (i + 1) ∧ (0 ≤ d ∧ d < 4294967296) ∧ (0 ≤ c' ∧ c' ≤ 1) ∧ c + u + v = d + 4294967296 * c' := by
  refine ⟨(c + u + v) % 4294967296, (c + u + v) / 4294967296, ?_, part_bd _, by omega, part_eq _⟩
  simp only [computusref01_add.l0]
  rw [if_pos h6, if_pos h0, l0, l1, l5, if_pos (by omega), if_pos (by omega), if_pos (by omega), hu, hv, u64w (x := c + u) (by omega) (by omega), u64w (x := c + u + v) (by omega) (by omega), and32 (by omega) (by omega), w64 (by omega) (by omega)]
theorem add_key {a0 a1 a2 a3 a4 a5 b0 b1 b2 b3 b4 b5 d0 d1 d2 d3 d4 d5 c1 c2 c3 c4 c5 c6 : Int} (h0 : 0 + a0 + b0 = d0 + 4294967296 * c1) (h1 : c1 + a1 + b1 = d1 + 4294967296 * c2) (h2 : c2 + a2 + b2 = d2 + 4294967296 * c3) (h3 : c3 + a3 + b3 = d3 + 4294967296 * c4) (h4 : c4 + a4 + b4 = d4 + 4294967296 * c5) (h5 : c5 + a5 + b5 = d5 + 4294967296 * c6) : (a0 + 4294967296 * (a1 + 4294967296 * (a2 + 4294967296 * (a3 + 4294967296 * (a4 + 4294967296 * (a5)))))) + (b0 + 4294967296 * (b1 + 4294967296 * (b2 + 4294967296 * (b3 + 4294967296 * (b4 + 4294967296 * (b5)))))) = (d0 + 4294967296 * (d1 + 4294967296 * (d2 + 4294967296 * (d3 + 4294967296 * (d4 + 4294967296 * (d5)))))) + 6277101735386680763835789423207666416102355444464034512896 * c6 := by omega
theorem add_dig (k : Nat) {a b : Int} (ha : 0 ≤ a) (ha1 : a < 6277101735386680763835789423207666416102355444464034512896) (hb : 0 ≤ b) (hb1 : b < 6277101735386680763835789423207666416102355444464034512896) : computusref01_add.f (k + 7) (dig a) (dig b) = some (dig ((a + b) % 6277101735386680763835789423207666416102355444464034512896)) := by
  obtain ⟨a0, a1, a2, a3, a4, a5, ea, ⟨A0, A1, A2, A3, A4, A5⟩, va⟩ := dig_form ha ha1
  obtain ⟨b0, b1, b2, b3, b4, b5, eb, ⟨B0, B1, B2, B3, B4, B5⟩, vb⟩ := dig_form hb hb1
  clear ha ha1 hb hb1
  rw [ea, eb]
  unfold computusref01_add.f
  rw [if_pos (by decide), show (List.replicate 6 0 : List Int) = [0, 0, 0, 0, 0, 0] from rfl]
  have C0 : (0 : Int) ≤ 0 ∧ (0 : Int) ≤ 1 := by decide
  obtain ⟨d0, c1, e0, D0, C1, E0⟩ := add_next (k + 6) (x0 := [a0, a1, a2, a3, a4, a5]) (x1 := [b0, b1, b2, b3, b4, b5]) (x5 := [0, 0, 0, 0, 0, 0]) (c := 0) (i := 0) (u := a0) (v := b0) (by decide) (by decide) rfl rfl rfl C0 rfl rfl A0 B0
  refine e0.trans ?_
  show computusref01_add.l0 (k + 6) [a0, a1, a2, a3, a4, a5] [b0, b1, b2, b3, b4, b5] [d0, 0, 0, 0, 0, 0] c1 1 = _
  obtain ⟨d1, c2, e1, D1, C2, E1⟩ := add_next (k + 5) (x0 := [a0, a1, a2, a3, a4, a5]) (x1 := [b0, b1, b2, b3, b4, b5]) (x5 := [d0, 0, 0, 0, 0, 0]) (c := c1) (i := 1) (u := a1) (v := b1) (by decide) (by decide) rfl rfl rfl C1 rfl rfl A1 B1
  refine e1.trans ?_
  show computusref01_add.l0 (k + 5) [a0, a1, a2, a3, a4, a5] [b0, b1, b2, b3, b4, b5] [d0, d1, 0, 0, 0, 0] c2 2 = _
  obtain ⟨d2, c3, e2, D2, C3, E2⟩ := add_next (k + 4) (x0 := [a0, a1, a2, a3, a4, a5]) (x1 := [b0, b1, b2, b3, b4, b5]) (x5 := [d0, d1, 0, 0, 0, 0]) (c := c2) (i := 2) (u := a2) (v := b2) (by decide) (by decide) rfl rfl rfl C2 rfl rfl A2 B2
  refine e2.trans ?_
  show computusref01_add.l0 (k + 4) [a0, a1, a2, a3, a4, a5] [b0, b1, b2, b3, b4, b5] [d0, d1, d2, 0, 0, 0] c3 3 = _
  obtain ⟨d3, c4, e3, D3, C4, E3⟩ := add_next (k + 3) (x0 := [a0, a1, a2, a3, a4, a5]) (x1 := [b0, b1, b2, b3, b4, b5]) (x5 := [d0, d1, d2, 0, 0, 0]) (c := c3) (i := 3) (u := a3) (v := b3) (by decide) (by decide) rfl rfl rfl C3 rfl rfl A3 B3
  refine e3.trans ?_
  show computusref01_add.l0 (k + 3) [a0, a1, a2, a3, a4, a5] [b0, b1, b2, b3, b4, b5] [d0, d1, d2, d3, 0, 0] c4 4 = _
  obtain ⟨d4, c5, e4, D4, C5, E4⟩ := add_next (k + 2) (x0 := [a0, a1, a2, a3, a4, a5]) (x1 := [b0, b1, b2, b3, b4, b5]) (x5 := [d0, d1, d2, d3, 0, 0]) (c := c4) (i := 4) (u := a4) (v := b4) (by decide) (by decide) rfl rfl rfl C4 rfl rfl A4 B4
  refine e4.trans ?_
  show computusref01_add.l0 (k + 2) [a0, a1, a2, a3, a4, a5] [b0, b1, b2, b3, b4, b5] [d0, d1, d2, d3, d4, 0] c5 5 = _
  obtain ⟨d5, c6, e5, D5, C6, E5⟩ := add_next (k + 1) (x0 := [a0, a1, a2, a3, a4, a5]) (x1 := [b0, b1, b2, b3, b4, b5]) (x5 := [d0, d1, d2, d3, d4, 0]) (c := c5) (i := 5) (u := a5) (v := b5) (by decide) (by decide) rfl rfl rfl C5 rfl rfl A5 B5
  refine e5.trans ?_
  show computusref01_add.l0 (k + 1) [a0, a1, a2, a3, a4, a5] [b0, b1, b2, b3, b4, b5] [d0, d1, d2, d3, d4, d5] c6 6 = _
  simp only [computusref01_add.l0]
  have key := add_key E0 E1 E2 E3 E4 E5
  rw [← va, ← vb] at key
  rw [if_neg (by decide), dig_of ⟨D0, D1, D2, D3, D4, D5⟩ (mod_of key (hv_bd ⟨D0, D1, D2, D3, D4, D5⟩))]
theorem add_ev {a b : Int} (ha : 0 ≤ a) (hb : 0 ≤ b) (h : a + b < 6277101735386680763835789423207666416102355444464034512896) : Ev (fun k => computusref01_add.f k (dig a) (dig b)) (dig (a + b)) := by
  have e := Ev.of (computusref01_add.mono (dig a) (dig b)) (add_dig 0 ha (by omega) hb (by omega))
  rwa [show (a + b) % 6277101735386680763835789423207666416102355444464034512896 = a + b by omega] at e
theorem less_next (k : Nat) {x0 x1 x5 : List Int} {c i u v : Int} (h0 : 0 ≤ i) (h6 : i < 6) (l0 : x0.length = 6) (l1 : x1.length = 6) (l5 : x5.length = 6) (hc : 0 ≤ c ∧ c ≤ 1)
    (hu : rd x0 i = u) (hv : rd x1 i = v) (ub : 0 ≤ u ∧ u < 4294967296) (vb : 0 ≤ v ∧ v < 4294967296) :
    ∃ d c', computusref01_less.l0 (k + 1) x0 x1 x5 c i = computusref01_less.l0 k x0 x1 (x5.set i.toNat d) c' (i + 1) ∧ (0 ≤ d ∧ d < 4294967296) ∧ (0 ≤ c' ∧ c' ≤ 1) ∧ u - v - c = d - 4294967296 * c' := by
  refine ⟨(u + 4294967296 - v - c) % 4294967296, 1 - (u + 4294967296 - v - c) / 4294967296, ?_, part_bd _, by omega, by omega⟩
  simp only [computusref01_less.l0]
  rw [if_pos h6, if_pos h0, l0, l1, l5, if_pos (by omega), if_pos (by omega), if_pos (by omega), hu, hv, u64w (x := u + 4294967296) (by omega) (by omega), u64w (x := u + 4294967296 - v) (by omega) (by omega), u64w (x := u + 4294967296 - v - c) (by omega) (by omega), and32 (by omega) (by omega), u64w (x := 1 - (u + 4294967296 - v - c) / 4294967296) (by omega) (by omega), w64 (by omega) (by omega)]
theorem less_key {a0 a1 a2 a3 a4 a5 b0 b1 b2 b3 b4 b5 d0 d1 d2 d3 d4 d5 c1 c2 c3 c4 c5 c6 : Int} (h0 : a0 - b0 - 0 = d0 - 4294967296 * c1) (h1 : a1 - b1 - c1 = d1 - 4294967296 * c2) (h2 : a2 - b2 - c2 = d2 - 4294967296 * c3) (h3 : a3 - b3 - c3 = d3 - 4294967296 * c4) (h4 : a4 - b4 - c4 = d4 - 4294967296 * c5) (h5 : a5 - b5 - c5 = d5 - 4294967296 * c6) : (a0 + 4294967296 * (a1 + 4294967296 * (a2 + 4294967296 * (a3 + 4294967296 * (a4 + 4294967296 * (a5)))))) - (b0 + 4294967296 * (b1 + 4294967296 * (b2 + 4294967296 * (b3 + 4294967296 * (b4 + 4294967296 * (b5)))))) = (d0 + 4294967296 * (d1 + 4294967296 * (d2 + 4294967296 * (d3 + 4294967296 * (d4 + 4294967296 * (d5)))))) - 6277101735386680763835789423207666416102355444464034512896 * c6 := by omega
theorem sub_of {x D c : Int} (h : x = D - 6277101735386680763835789423207666416102355444464034512896 * c) (h0 : 0 ≤ D ∧ D < 6277101735386680763835789423207666416102355444464034512896) (hx : 0 ≤ x) (hx1 : x < 6277101735386680763835789423207666416102355444464034512896) : x = D := by omega
theorem less_dig (k : Nat) {a b : Int} (ha1 : a < 6277101735386680763835789423207666416102355444464034512896) (hb : 0 ≤ b) (hab : b ≤ a) : computusref01_less.f (k + 7) (dig a) (dig b) = some (dig (a - b)) := by
  have h1 : 0 ≤ a - b := by omega
  have h2 : a - b < 6277101735386680763835789423207666416102355444464034512896 := by omega
  obtain ⟨a0, a1, a2, a3, a4, a5, ea, ⟨A0, A1, A2, A3, A4, A5⟩, va⟩ := dig_form (a := a) (by omega) ha1
  obtain ⟨b0, b1, b2, b3, b4, b5, eb, ⟨B0, B1, B2, B3, B4, B5⟩, vb⟩ := dig_form hb (by omega)
  clear ha1 hb hab
  rw [ea, eb]
  unfold computusref01_less.f
  rw [if_pos (by decide), show (List.replicate 6 0 : List Int) = [0, 0, 0, 0, 0, 0] from rfl]
  have C0 : (0 : Int) ≤ 0 ∧ (0 : Int) ≤ 1 := by decide
  obtain ⟨d0, c1, e0, D0, C1, E0⟩ := less_next (k + 6) (x0 := [a0, a1, a2, a3, a4, a5]) (x1 := [b0, b1, b2, b3, b4, b5]) (x5 := [0, 0, 0, 0, 0, 0]) (c := 0) (i := 0) (u := a0) (v := b0) (by decide) (by decide) rfl rfl rfl C0 rfl rfl A0 B0
  refine e0.trans ?_
  show computusref01_less.l0 (k + 6) [a0, a1, a2, a3, a4, a5] [b0, b1, b2, b3, b4, b5] [d0, 0, 0, 0, 0, 0] c1 1 = _
  obtain ⟨d1, c2, e1, D1, C2, E1⟩ := less_next (k + 5) (x0 := [a0, a1, a2, a3, a4, a5]) (x1 := [b0, b1, b2, b3, b4, b5]) (x5 := [d0, 0, 0, 0, 0, 0]) (c := c1) (i := 1) (u := a1) (v := b1) (by decide) (by decide) rfl rfl rfl C1 rfl rfl A1 B1
  refine e1.trans ?_
  show computusref01_less.l0 (k + 5) [a0, a1, a2, a3, a4, a5] [b0, b1, b2, b3, b4, b5] [d0, d1, 0, 0, 0, 0] c2 2 = _
  obtain ⟨d2, c3, e2, D2, C3, E2⟩ := less_next (k + 4) (x0 := [a0, a1, a2, a3, a4, a5]) (x1 := [b0, b1, b2, b3, b4, b5]) (x5 := [d0, d1, 0, 0, 0, 0]) (c := c2) (i := 2) (u := a2) (v := b2) (by decide) (by decide) rfl rfl rfl C2 rfl rfl A2 B2
  refine e2.trans ?_
  show computusref01_less.l0 (k + 4) [a0, a1, a2, a3, a4, a5] [b0, b1, b2, b3, b4, b5] [d0, d1, d2, 0, 0, 0] c3 3 = _
  obtain ⟨d3, c4, e3, D3, C4, E3⟩ := less_next (k + 3) (x0 := [a0, a1, a2, a3, a4, a5]) (x1 := [b0, b1, b2, b3, b4, b5]) (x5 := [d0, d1, d2, 0, 0, 0]) (c := c3) (i := 3) (u := a3) (v := b3) (by decide) (by decide) rfl rfl rfl C3 rfl rfl A3 B3
  refine e3.trans ?_
  show computusref01_less.l0 (k + 3) [a0, a1, a2, a3, a4, a5] [b0, b1, b2, b3, b4, b5] [d0, d1, d2, d3, 0, 0] c4 4 = _
  obtain ⟨d4, c5, e4, D4, C5, E4⟩ := less_next (k + 2) (x0 := [a0, a1, a2, a3, a4, a5]) (x1 := [b0, b1, b2, b3, b4, b5]) (x5 := [d0, d1, d2, d3, 0, 0]) (c := c4) (i := 4) (u := a4) (v := b4) (by decide) (by decide) rfl rfl rfl C4 rfl rfl A4 B4
  refine e4.trans ?_
  show computusref01_less.l0 (k + 2) [a0, a1, a2, a3, a4, a5] [b0, b1, b2, b3, b4, b5] [d0, d1, d2, d3, d4, 0] c5 5 = _
  obtain ⟨d5, c6, e5, D5, C6, E5⟩ := less_next (k + 1) (x0 := [a0, a1, a2, a3, a4, a5]) (x1 := [b0, b1, b2, b3, b4, b5]) (x5 := [d0, d1, d2, d3, d4, 0]) (c := c5) (i := 5) (u := a5) (v := b5) (by decide) (by decide) rfl rfl rfl C5 rfl rfl A5 B5
  refine e5.trans ?_
  show computusref01_less.l0 (k + 1) [a0, a1, a2, a3, a4, a5] [b0, b1, b2, b3, b4, b5] [d0, d1, d2, d3, d4, d5] c6 6 = _
  simp only [computusref01_less.l0]
  have key := less_key E0 E1 E2 E3 E4 E5
  rw [← va, ← vb] at key
  rw [if_neg (by decide), dig_of ⟨D0, D1, D2, D3, D4, D5⟩ (sub_of key (hv_bd ⟨D0, D1, D2, D3, D4, D5⟩) h1 h2)]
theorem less_ev {a b : Int} (ha1 : a < 6277101735386680763835789423207666416102355444464034512896) (hb : 0 ≤ b) (hab : b ≤ a) : Ev (fun k => computusref01_less.f k (dig a) (dig b)) (dig (a - b)) :=
  Ev.of (computusref01_less.mono (dig a) (dig b)) (less_dig 0 ha1 hb hab)
def sgn (a b : Int) : Int := if a < b then -1 else if b < a then 1 else 0
theorem sgn_lt {a b : Int} (h : a < b) : sgn a b = -1 := if_pos h
theorem sgn_gt {a b : Int} (h : b < a) : sgn a b = 1 := by unfold sgn; rw [if_neg (by omega), if_pos h]
theorem sgn_eq {a b : Int} (h : a = b) : sgn a b = 0 := by unfold sgn; rw [if_neg (by omega), if_neg (by omega)]
theorem lt_in {x y u v : Int} (hx : 0 ≤ x ∧ x < 4294967296) (hy : 0 ≤ y ∧ y < 4294967296) (h : u < v) : x + 4294967296 * u < y + 4294967296 * v := by omega
theorem lt_at {x y u v : Int} (h : x < y) (e : u = v) : x + 4294967296 * u < y + 4294967296 * v := by omega
theorem eq_in {x y u v : Int} (h : x = y) (e : u = v) : x + 4294967296 * u = y + 4294967296 * v := by omega
theorem eq_of_not {x y : Int} (h : ¬ x < y) (g : ¬ x > y) : x = y := by omega
theorem cmp_step (k : Nat) {x0 x1 : List Int} {i u v : Int} (h0 : 0 ≤ i) (h6 : i < 6) (l0 : x0.length = 6) (l1 : x1.length = 6) (hu : rd x0 i = u) (hv : rd x1 i = v) :
    computusref01_cmp.l0 (k + 1) x0 x1 i = if u < v then some (-1) else if u > v then some 1 else computusref01_cmp.l0 k x0 x1 (i - 1) := by
  simp only [computusref01_cmp.l0]
  rw [if_pos (by omega), if_pos h0, l0, l1, if_pos (by omega), if_pos (by omega), hu, hv, w64 (by omega) (by omega)]
theorem cmp_dig (k : Nat) {a b : Int} (ha : 0 ≤ a) (ha1 : a < 6277101735386680763835789423207666416102355444464034512896) (hb : 0 ≤ b) (hb1 : b < 6277101735386680763835789423207666416102355444464034512896) : computusref01_cmp.f (k + 7) (dig a) (dig b) = some (sgn a b) := by
  obtain ⟨a0, a1, a2, a3, a4, a5, ea, ⟨A0, A1, A2, A3, A4, A5⟩, va⟩ := dig_form ha ha1
  obtain ⟨b0, b1, b2, b3, b4, b5, eb, ⟨B0, B1, B2, B3, B4, B5⟩, vb⟩ := dig_form hb hb1
  clear ha ha1 hb hb1
  rw [ea, eb]
  unfold computusref01_cmp.f
  rw [cmp_step (k + 6) (i := 5) (u := a5) (v := b5) (by decide) (by decide) rfl rfl rfl rfl]
  by_cases g5 : a5 < b5
  · rw [if_pos g5, va, vb, sgn_lt (lt_in A0 B0 (lt_in A1 B1 (lt_in A2 B2 (lt_in A3 B3 (lt_in A4 B4 (g5))))))]
  rw [if_neg g5]
  by_cases f5 : a5 > b5
  · rw [if_pos f5, va, vb, sgn_gt (lt_in B0 A0 (lt_in B1 A1 (lt_in B2 A2 (lt_in B3 A3 (lt_in B4 A4 (f5))))))]
  rw [if_neg f5]
  have Q5 := eq_of_not g5 f5
  show computusref01_cmp.l0 (k + 6) [a0, a1, a2, a3, a4, a5] [b0, b1, b2, b3, b4, b5] 4 = _
  rw [cmp_step (k + 5) (i := 4) (u := a4) (v := b4) (by decide) (by decide) rfl rfl rfl rfl]
  by_cases g4 : a4 < b4
  · rw [if_pos g4, va, vb, sgn_lt (lt_in A0 B0 (lt_in A1 B1 (lt_in A2 B2 (lt_in A3 B3 (lt_at g4 Q5)))))]
  rw [if_neg g4]
  by_cases f4 : a4 > b4
  · rw [if_pos f4, va, vb, sgn_gt (lt_in B0 A0 (lt_in B1 A1 (lt_in B2 A2 (lt_in B3 A3 (lt_at f4 Q5.symm)))))]
  rw [if_neg f4]
  have Q4 := eq_in (eq_of_not g4 f4) Q5
  show computusref01_cmp.l0 (k + 5) [a0, a1, a2, a3, a4, a5] [b0, b1, b2, b3, b4, b5] 3 = _
  rw [cmp_step (k + 4) (i := 3) (u := a3) (v := b3) (by decide) (by decide) rfl rfl rfl rfl]
  by_cases g3 : a3 < b3
  · rw [if_pos g3, va, vb, sgn_lt (lt_in A0 B0 (lt_in A1 B1 (lt_in A2 B2 (lt_at g3 Q4))))]
  rw [if_neg g3]
  by_cases f3 : a3 > b3
  · rw [if_pos f3, va, vb, sgn_gt (lt_in B0 A0 (lt_in B1 A1 (lt_in B2 A2 (lt_at f3 Q4.symm))))]
  rw [if_neg f3]
  have Q3 := eq_in (eq_of_not g3 f3) Q4
  show computusref01_cmp.l0 (k + 4) [a0, a1, a2, a3, a4, a5] [b0, b1, b2, b3, b4, b5] 2 = _
  rw [cmp_step (k + 3) (i := 2) (u := a2) (v := b2) (by decide) (by decide) rfl rfl rfl rfl]
  by_cases g2 : a2 < b2
  · rw [if_pos g2, va, vb, sgn_lt (lt_in A0 B0 (lt_in A1 B1 (lt_at g2 Q3)))]
  rw [if_neg g2]
  by_cases f2 : a2 > b2
  · rw [if_pos f2, va, vb, sgn_gt (lt_in B0 A0 (lt_in B1 A1 (lt_at f2 Q3.symm)))]
  rw [if_neg f2]
  have Q2 := eq_in (eq_of_not g2 f2) Q3
  show computusref01_cmp.l0 (k + 3) [a0, a1, a2, a3, a4, a5] [b0, b1, b2, b3, b4, b5] 1 = _
  rw [cmp_step (k + 2) (i := 1) (u := a1) (v := b1) (by decide) (by decide) rfl rfl rfl rfl]
  by_cases g1 : a1 < b1
  · rw [if_pos g1, va, vb, sgn_lt (lt_in A0 B0 (lt_at g1 Q2))]
  rw [if_neg g1]
  by_cases f1 : a1 > b1
  · rw [if_pos f1, va, vb, sgn_gt (lt_in B0 A0 (lt_at f1 Q2.symm))]
  rw [if_neg f1]
  have Q1 := eq_in (eq_of_not g1 f1) Q2
  show computusref01_cmp.l0 (k + 2) [a0, a1, a2, a3, a4, a5] [b0, b1, b2, b3, b4, b5] 0 = _
  rw [cmp_step (k + 1) (i := 0) (u := a0) (v := b0) (by decide) (by decide) rfl rfl rfl rfl]
  by_cases g0 : a0 < b0
  · rw [if_pos g0, va, vb, sgn_lt (lt_at g0 Q1)]
  rw [if_neg g0]
  by_cases f0 : a0 > b0
  · rw [if_pos f0, va, vb, sgn_gt (lt_at f0 Q1.symm)]
  rw [if_neg f0]
  have Q0 := eq_in (eq_of_not g0 f0) Q1
  show computusref01_cmp.l0 (k + 1) [a0, a1, a2, a3, a4, a5] [b0, b1, b2, b3, b4, b5] (-1) = _
  simp only [computusref01_cmp.l0]
  rw [if_neg (by decide), va, vb, sgn_eq Q0]
theorem cmp_ev {a b : Int} (ha : 0 ≤ a) (ha1 : a < 6277101735386680763835789423207666416102355444464034512896) (hb : 0 ≤ b) (hb1 : b < 6277101735386680763835789423207666416102355444464034512896) : Ev (fun k => computusref01_cmp.f k (dig a) (dig b)) (sgn a b) :=
  Ev.of (computusref01_cmp.mono (dig a) (dig b)) (cmp_dig 0 ha ha1 hb hb1)
theorem zero_ev {a : Int} (ha : 0 ≤ a) (ha1 : a < 6277101735386680763835789423207666416102355444464034512896) : Ev (fun k => computusref01_zero.f k (dig a)) (decide (a = 0)) := by
  unfold computusref01_zero.f
  simp only [if_pos (show (6 : Int) ≤ 35184372088832 by omega), ← dig_zero]
  refine Ev.bind (cmp_ev ha ha1 (by omega) (by omega)) ?_
  have e : (sgn a 0 == 0) = decide (a = 0) := by
    unfold sgn
    by_cases h : a = 0
    · subst h; rfl
    · rw [if_neg (by omega), if_pos (by omega), decide_eq_false h]; rfl
  rw [e]; exact Ev.now _
end Go.Proofs.YthkmckmfgglafaaGreat.Civ
namespace Go.Proofs.YthkmckmfgglafaaGreat.Civ
set_option linter.unusedVariables false
set_option linter.unusedSimpArgs false
open Go.RowKit Go.Proofs.YthkmckmfgglafaaGreatW.PrintWords Go.Proofs.YthkmckmfgglafaaGreatW.PrintLast Go.Proofs.YthkmckmfgglafaaGreatW.PrintMore Go.Proofs.YthkmckmfgglafaaGreat.P
instance (x : Int) : Decidable (I64 x) := inferInstanceAs (Decidable (_ ∧ _))
/-- A number, if it is one of 64 bits; else out of range. -/
def out (z : Int) : Int × Int := if I64 z then (z, 0) else (0, 10)
theorem out_in {z : Int} (h : I64 z) : out z = (z, 0) := if_pos h
theorem out_no {z : Int} (h : ¬ I64 z) : out z = (0, 10) := if_neg h
theorem add_eq (a b : Int) (ha : I64 a) (hb : I64 b) : num_Add.f a b = some (out (a + b)) := by
  unfold num_Add.f out
  by_cases h : I64 (a + b)
  · rw [if_pos h, w64_of h, if_neg]
    simp only [bne_iff_ne, ne_eq, Decidable.not_not]
    apply decide_eq_decide.2; omega
  · rw [if_neg h, if_pos]
    unfold I64 at *
    have hw : wrap64 (a + b) = a + b - 18446744073709551616 ∨ wrap64 (a + b) = a + b + 18446744073709551616 := by unfold wrap64; omega
    simp only [bne_iff_ne, ne_eq, decide_eq_decide]
    unfold wrap64 at *
    omega
/-- Without a sign. -/
def ab (a : Int) : Int := if a < 0 then -a else a
theorem ab_bd {a : Int} (h : I64 a) : 0 ≤ ab a ∧ ab a ≤ 9223372036854775808 := by unfold ab; unfold I64 at h; split <;> omega
theorem ab_pos {a : Int} (h : 0 ≤ a) : ab a = a := by unfold ab; rw [if_neg (by omega)]
theorem ab_neg {a : Int} (h : a < 0) : ab a = -a := by unfold ab; rw [if_pos h]
theorem size_eq (a : Int) (ha : I64 a) : num_size.f a = some (ab a) := by
  unfold num_size.f ab
  unfold I64 at ha
  by_cases h : a < 0
  · rw [if_pos h, if_pos h, u64m, u64m]; congr 1; omega
  · rw [if_neg h, if_neg h, u64m]; congr 1; omega
theorem mul_bd {x y a b : Int} (hx : 0 ≤ x) (hxa : x ≤ a) (hy : 0 ≤ y) (hyb : y ≤ b) : 0 ≤ x * y ∧ x * y ≤ a * b :=
  ⟨Int.mul_nonneg hx hy, Int.mul_le_mul hxa hyb hy (by omega)⟩
theorem mul64_eq (x y : Int) (hx : 0 ≤ x) (hx1 : x ≤ 18446744073709551615) (hy : 0 ≤ y) (hy1 : y ≤ 18446744073709551615) :
    bits_Mul64.f x y = some (x * y / 18446744073709551616, x * y % 18446744073709551616) := by
  unfold bits_Mul64.f
  rw [and32 hx hx1, and32 hy hy1]
  have ex : x = x / 4294967296 * 4294967296 + x % 4294967296 := by omega
  have ey : y = y / 4294967296 * 4294967296 + y % 4294967296 := by omega
  have bx1 : 0 ≤ x / 4294967296 ∧ x / 4294967296 ≤ 4294967295 := by omega
  have bx0 : 0 ≤ x % 4294967296 ∧ x % 4294967296 ≤ 4294967295 := by omega
  have by1 : 0 ≤ y / 4294967296 ∧ y / 4294967296 ≤ 4294967295 := by omega
  have by0 : 0 ≤ y % 4294967296 ∧ y % 4294967296 ≤ 4294967295 := by omega
  have p11 := mul_bd bx1.1 bx1.2 by1.1 by1.2
  have p10 := mul_bd bx1.1 bx1.2 by0.1 by0.2
  have p01 := mul_bd bx0.1 bx0.2 by1.1 by1.2
  have p00 := mul_bd bx0.1 bx0.2 by0.1 by0.2
  have e : x * y = x / 4294967296 * (y / 4294967296) * 18446744073709551616 + (x / 4294967296 * (y % 4294967296) + x % 4294967296 * (y / 4294967296)) * 4294967296 + x % 4294967296 * (y % 4294967296) := by
    conv => lhs; rw [ex, ey]
    simp only [Int.mul_add, Int.add_mul]
    have c1 : x / 4294967296 * 4294967296 * (y / 4294967296 * 4294967296) = x / 4294967296 * (y / 4294967296) * 18446744073709551616 := by
      rw [Int.mul_assoc, Int.mul_left_comm 4294967296, ← Int.mul_assoc (x / 4294967296)]; rfl
    have c2 : x % 4294967296 * (y / 4294967296 * 4294967296) = x % 4294967296 * (y / 4294967296) * 4294967296 := by rw [Int.mul_assoc]
    have c3 : x / 4294967296 * 4294967296 * (y % 4294967296) = x / 4294967296 * (y % 4294967296) * 4294967296 := by rw [Int.mul_assoc, Int.mul_comm 4294967296, ← Int.mul_assoc]
    rw [c1, c2, c3]; omega
  generalize x * y = P at *
  generalize x / 4294967296 * (y / 4294967296) = P11 at *
  generalize x / 4294967296 * (y % 4294967296) = P10 at *
  generalize x % 4294967296 * (y / 4294967296) = P01 at *
  generalize x % 4294967296 * (y % 4294967296) = P00 at *
  clear ex ey bx1 bx0 by1 by0 hx hx1 hy hy1
  rw [u64w (x := P11) (by omega) (by omega), u64w (x := P10) (by omega) (by omega), u64w (x := P00) (by omega) (by omega), u64w (x := P01) (by omega) (by omega)]
  have t : 0 ≤ P00 / 4294967296 ∧ P00 / 4294967296 ≤ 4294967295 := by omega
  rw [u64w (x := P10 + P00 / 4294967296) (by omega) (by omega), and32 (by omega) (by omega)]
  obtain ⟨T, hT⟩ : ∃ T, P10 + P00 / 4294967296 = T := ⟨_, rfl⟩
  rw [hT]
  rw [u64w (x := T % 4294967296 + P01) (by omega) (by omega), u64w (x := P11 + T / 4294967296) (by omega) (by omega), u64w (x := P11 + T / 4294967296 + (T % 4294967296 + P01) / 4294967296) (by omega) (by omega), u64m]
  congr 2
  omega
theorem product_eq (a b : Int) (ha : I64 a) (hb : I64 b) : num_product.f a b = some (ab a * ab b / 18446744073709551616, ab a * ab b % 18446744073709551616) := by
  have h1 := ab_bd ha
  have h2 := ab_bd hb
  unfold num_product.f
  rw [size_eq a ha, size_eq b hb]
  simp only [Option.bind_some]
  rw [mul64_eq _ _ h1.1 (by omega) h2.1 (by omega)]
  rfl
theorem signed_eq (k : Nat) (neg : Bool) (hi lo : Int) (h0 : 0 ≤ hi) (h1 : 0 ≤ lo) (h2 : lo ≤ 18446744073709551615) :
    num_signed.f (k + 1) neg hi lo = some (out (if neg = true then -(hi * 18446744073709551616 + lo) else hi * 18446744073709551616 + lo)) := by
  unfold num_signed.f
  by_cases hh : hi = 0
  · subst hh
    rw [if_pos rfl]
    cases neg with
    | true =>
      simp only [if_true, num_signed.j0]
      by_cases g : lo ≤ 9223372036854775808
      · rw [decide_eq_true g, if_pos rfl, out_in (by unfold I64; omega), u64m]
        congr 2; unfold wrap64; omega
      · rw [decide_eq_false g, if_neg (by simp), out_no (by unfold I64; omega)]
    | false =>
      simp only [num_signed.j0, Bool.false_eq_true, if_false]
      by_cases g : lo > 9223372036854775807
      · rw [if_pos g, out_no (by unfold I64; omega)]
      · rw [if_neg g, out_in (by unfold I64; omega), w64 (by omega) (by omega)]
        congr 2; omega
  · rw [if_neg hh]
    cases neg with
    | true => rw [if_pos rfl, out_no (by unfold I64; omega)]
    | false => rw [if_neg (by simp), out_no (by unfold I64; omega)]
/-- The sign of a product. -/
theorem mul_sign (a b : Int) : (if ((decide (a < 0)) != (decide (b < 0))) = true then -(ab a * ab b) else ab a * ab b) = a * b := by
  by_cases h1 : a < 0
  · by_cases h2 : b < 0
    · rw [decide_eq_true h1, decide_eq_true h2, if_neg (by simp), ab_neg h1, ab_neg h2, Int.neg_mul_neg]
    · rw [decide_eq_true h1, decide_eq_false h2, if_pos (by simp), ab_neg h1, ab_pos (by omega), Int.neg_mul, Int.neg_neg]
  · by_cases h2 : b < 0
    · rw [decide_eq_false h1, decide_eq_true h2, if_pos (by simp), ab_pos (by omega), ab_neg h2, Int.mul_neg, Int.neg_neg]
    · rw [decide_eq_false h1, decide_eq_false h2, if_neg (by simp), ab_pos (by omega), ab_pos (by omega)]
/-- How often, the greatest whole number that is not above; what is left. -/
def fl (a b : Int) : Int := if b < 0 then (-a) / (-b) else a / b
def md (a b : Int) : Int := if b < 0 then -((-a) % (-b)) else a % b
theorem fl_md (a b : Int) : a = b * fl a b + md a b := by
  unfold fl md
  split
  · have := Int.mul_ediv_add_emod (-a) (-b)
    rw [Int.neg_mul] at this
    omega
  · have := Int.mul_ediv_add_emod a b
    omega
theorem fl_unique {a b q r : Int} (h : a = b * q + r) (hr : (0 ≤ r ∧ r < b) ∨ (b < r ∧ r ≤ 0)) : fl a b = q ∧ md a b = r := by
  unfold fl md
  by_cases hb : b < 0
  · rw [if_pos hb, if_pos hb]
    have := (Int.ediv_emod_unique (a := -a) (b := -b) (r := -r) (q := q) (by omega)).2 ⟨by rw [Int.neg_mul]; omega, by omega, by omega⟩
    omega
  · rw [if_neg hb, if_neg hb]
    have := (Int.ediv_emod_unique (a := a) (b := b) (r := r) (q := q) (by omega)).2 ⟨by omega, by omega, by omega⟩
    omega
theorem div64_small (k : Nat) (lo y : Int) (h0 : 0 < y) (h1 : 0 ≤ lo) (h2 : lo ≤ 18446744073709551615) : bits_Div64.f k 0 lo y = some (lo / y, lo % y) := by
  unfold bits_Div64.f
  rw [if_neg (by omega), if_neg (by omega), if_pos rfl, td_pos h1, tm_pos h1]
  have := Int.ediv_le_self y h1
  have := Int.ediv_nonneg h1 (b := y) (by omega)
  rw [u64w (by omega) (by omega)]
/-- Of a product without signs, and how often a number without a sign is there: with the signs. -/
theorem fl_signs {a b c P D : Int} (hP : ab a * ab b = P) (hD : ab c = D) (hc : c ≠ 0) :
    fl (a * b) c = if (((decide (a < 0)) != (decide (b < 0))) != (decide (c < 0))) = true then (if P % D = 0 then -(P / D) else -(P / D) - 1) else P / D := by
  have hs := mul_sign a b
  rw [hP] at hs
  have hD0 : 0 < D := by rw [← hD]; unfold ab; split <;> omega
  have e := Int.mul_ediv_add_emod P D
  have r0 := Int.emod_nonneg P (Int.ne_of_gt hD0)
  have r1 := Int.emod_lt_of_pos P hD0
  have hP0 : ((decide (a < 0)) != (decide (b < 0))) = true → a * b = -P := fun h => by rw [if_pos h] at hs; exact hs.symm
  have hP1 : ((decide (a < 0)) != (decide (b < 0))) = false → a * b = P := fun h => by rw [if_neg (by rw [h]; simp)] at hs; exact hs.symm
  generalize ((decide (a < 0)) != (decide (b < 0))) = s at *
  generalize P / D = q at *
  generalize P % D = r at *
  have em : D * (q + 1) = D * q + D := by rw [Int.mul_add, Int.mul_one]
  by_cases h3 : c < 0
  · rw [ab_neg h3] at hD
    rw [decide_eq_true h3]
    cases s with
    | true =>
      rw [if_neg (by simp), hP0 rfl]
      exact (fl_unique (r := -r) (by rw [← e, show c = -D by omega, Int.neg_mul]; omega) (by omega)).1
    | false =>
      rw [if_pos (by simp), hP1 rfl]
      by_cases hr : r = 0
      · rw [if_pos hr]
        exact (fl_unique (r := 0) (by rw [← e, show c = -D by omega, Int.neg_mul_neg]; omega) (by omega)).1
      · rw [if_neg hr]
        exact (fl_unique (r := r - D) (by rw [← e, show c = -D by omega, show -q - 1 = -(q + 1) by omega, Int.neg_mul_neg]; omega) (by omega)).1
  · rw [ab_pos (by omega)] at hD
    subst hD
    rw [decide_eq_false h3]
    cases s with
    | true =>
      rw [if_pos (by simp), hP0 rfl]
      by_cases hr : r = 0
      · rw [if_pos hr]
        exact (fl_unique (r := 0) (by rw [← e, Int.mul_neg]; omega) (by omega)).1
      · rw [if_neg hr]
        exact (fl_unique (r := c - r) (by rw [← e, show -q - 1 = -(q + 1) by omega, Int.mul_neg]; omega) (by omega)).1
    | false =>
      rw [if_neg (by simp), hP1 rfl]
      exact (fl_unique (r := r) (by omega) (by omega)).1
theorem add64_eq (x : Int) (h0 : 0 ≤ x) : bits_Add64.f x 1 0 = some ((x + 1) % 18446744073709551616, (x + 1) / 18446744073709551616) := by
  unfold bits_Add64.f
  rw [if_pos h0, if_pos (by omega), if_pos (by omega), if_pos (by omega), Int.add_zero]
/-- One number times another one, and how often a third one is there: if the division of 128 bits by 64 is as it is. -/
theorem scale_of (k : Nat) (a b c : Int) (ha : I64 a) (hb : I64 b) (hc : I64 c) (h0 : c ≠ 0)
    (hd : ab a * ab b / 18446744073709551616 < ab c → bits_Div64.f (k + 1) (ab a * ab b / 18446744073709551616) (ab a * ab b % 18446744073709551616) (ab c) = some (ab a * ab b / ab c, ab a * ab b % ab c)) :
    num_Scale.f (k + 1) a b c = some (out (fl (a * b) c)) := by
  have h1 := ab_bd ha
  have h2 := ab_bd hb
  have h3 := ab_bd hc
  have h4 := mul_bd h1.1 h1.2 h2.1 h2.2
  have hD0 : 0 < ab c := by unfold ab; split <;> omega
  rw [fl_signs rfl rfl h0]
  unfold num_Scale.f
  rw [if_neg h0, product_eq a b ha hb, size_eq c hc]
  simp only [Option.bind_some]
  generalize hP : ab a * ab b = P at *
  generalize hD : ab c = D at *
  have e := Int.mul_ediv_add_emod P D
  have r0 := Int.emod_nonneg P (Int.ne_of_gt hD0)
  have r1 := Int.emod_lt_of_pos P hD0
  have q0 : 0 ≤ P / D := Int.ediv_nonneg h4.1 (by omega)
  by_cases hl : P / 18446744073709551616 ≥ D
  · rw [if_pos hl]
    have hq : 18446744073709551616 ≤ P / D := by
      rw [Int.le_ediv_iff_mul_le hD0]; omega
    split
    · split
      · rw [out_no (by unfold I64; omega)]
      · rw [out_no (by unfold I64; omega)]
    · rw [out_no (by unfold I64; omega)]
  · rw [if_neg hl, hd (by omega)]
    simp only [Option.bind_some]
    have hq : P / D < 18446744073709551616 := Int.ediv_lt_of_lt_mul hD0 (by omega)
    generalize P / D = q at *
    generalize P % D = r at *
    by_cases hs : (((decide (a < 0)) != (decide (b < 0))) != (decide (c < 0))) = true
    · rw [if_pos hs, if_pos hs, hs]
      by_cases hr : r = 0
      · rw [if_pos hr, if_pos hr, signed_eq _ _ _ _ (by omega) (by omega) (by omega), if_pos rfl]
        simp only [Option.bind_some]
        rw [show (0 : Int) * 18446744073709551616 + q = q by omega]
      · rw [if_neg hr, if_neg hr, add64_eq _ q0]
        simp only [Option.bind_some]
        rw [signed_eq _ _ _ _ (by omega) (by omega) (by omega), if_pos rfl]
        simp only [Option.bind_some]
        rw [show (q + 1) / 18446744073709551616 * 18446744073709551616 + (q + 1) % 18446744073709551616 = q + 1 by omega, show -(q + 1) = -q - 1 by omega]
    · rw [if_neg hs, if_neg hs, signed_eq _ _ _ _ (by omega) (by omega) (by omega), if_neg hs]
      simp only [Option.bind_some]
      rw [show (0 : Int) * 18446744073709551616 + q = q by omega]
theorem div_eq (k : Nat) (a c : Int) (ha : I64 a) (hc : I64 c) (h0 : c ≠ 0) : num_Div.f (k + 1) a c = some (out (fl a c)) := by
  have h1 := ab_bd ha
  have h3 := ab_bd hc
  have hD0 : 0 < ab c := by unfold ab; split <;> omega
  unfold num_Div.f
  rw [scale_of k a 1 c ha (by unfold I64; omega) hc h0 (fun _ => ?_)]
  · simp only [Option.bind_some, Int.mul_one]
  · rw [ab_pos (a := 1) (by omega), Int.mul_one, show ab a / 18446744073709551616 = 0 by omega, show ab a % 18446744073709551616 = ab a by omega]
    exact div64_small _ _ _ hD0 h1.1 (by omega)
theorem mod_eq (a b : Int) (ha : I64 a) (hb : I64 b) (h0 : b ≠ 0) : num_Mod.f a b = some (md a b, 0) := by
  unfold num_Mod.f
  rw [if_neg h0]
  by_cases h1 : b = -1
  · rw [if_pos h1]
    have : md a b = 0 := by unfold md; rw [if_pos (by omega), h1]; simp
    rw [this]
  rw [if_neg h1]
  unfold I64 at hb
  by_cases hs : b < 0
  · -- the remainder of a cut division has the sign of a
    have e : Int.tmod a b = Int.tmod a (-b) := by rw [Int.tmod_neg]
    have c := cut_floor a (b := -b) (by omega)
    have g1 := Int.emod_nonneg a (b := -b) (by omega)
    have g2 := Int.emod_lt_of_pos a (b := -b) (by omega)
    have e2 : md a b = if a % (-b) = 0 then 0 else a % (-b) + b := by
      have d := Int.mul_ediv_add_emod a (-b)
      split
      · rename_i hz
        exact (fl_unique (q := -(a / -b)) (by rw [Int.mul_neg, ← Int.neg_mul]; omega) (by omega)).2
      · exact (fl_unique (q := -(a / -b) - 1) (by rw [show -(a / -b) - 1 = -((a / -b) + 1) by omega, Int.mul_neg, ← Int.neg_mul, Int.mul_add]; omega) (by omega)).2
    rw [e, e2]
    by_cases hn : Int.tmod a (-b) < 0
    · obtain ⟨c1, c2, c3⟩ := c.1 hn
      rw [if_neg (by omega), if_neg (show ¬ a % (-b) = 0 by omega), decide_eq_true hn, decide_eq_true hs, if_neg (by simp)]
      congr 2; omega
    · obtain ⟨c1, c2⟩ := c.2 hn
      rw [c2]
      by_cases hz : a % (-b) = 0
      · rw [if_pos hz, if_pos hz, hz]
      · rw [if_neg hz, if_neg hz, decide_eq_false (show ¬ a % (-b) < 0 by omega), decide_eq_true hs, if_pos (by simp), w64 (by omega) (by omega)]
  · have c := cut_floor a (b := b) (by omega)
    have g1 := Int.emod_nonneg a (b := b) (by omega)
    have g2 := Int.emod_lt_of_pos a (b := b) (by omega)
    have e2 : md a b = a % b := by unfold md; rw [if_neg hs]
    rw [e2]
    by_cases hn : Int.tmod a b < 0
    · obtain ⟨c1, c2, c3⟩ := c.1 hn
      rw [if_neg (by omega), decide_eq_true hn, decide_eq_false hs, if_pos (by simp), w64 (by omega) (by omega)]
      congr 2; omega
    · obtain ⟨c1, c2⟩ := c.2 hn
      rw [c2]
      by_cases hz : a % b = 0
      · rw [if_pos hz]
      · rw [if_neg hz, decide_eq_false (show ¬ a % b < 0 by omega), decide_eq_false hs, if_neg (by simp)]
theorem fl_pos {a b : Int} (h : 0 < b) : fl a b = a / b := by unfold fl; rw [if_neg (by omega)]
theorem md_pos {a b : Int} (h : 0 < b) : md a b = a % b := by unfold md; rw [if_neg (by omega)]
theorem fl_bd {a b : Int} (ha : I64 a) (hb : b ≠ 0) : I64 (fl a b) ∨ (b = -1 ∧ a = -9223372036854775808) := by
  unfold fl
  split
  · rename_i h
    by_cases h1 : b = -1
    · subst h1
      show I64 ((-a) / 1) ∨ _
      rw [Int.ediv_one]
      unfold I64 at *
      omega
    · left
      unfold I64 at *
      have e := Int.mul_ediv_add_emod (-a) (-b)
      have g1 := Int.emod_nonneg (-a) (b := -b) (by omega)
      have g2 := Int.emod_lt_of_pos (-a) (b := -b) (by omega)
      constructor
      · rw [Int.le_ediv_iff_mul_le (by omega)]
        have : -9223372036854775808 * -b ≤ -9223372036854775808 * 1 := Int.mul_le_mul_of_nonpos_left (by omega) (by omega)
        omega
      · rcases Int.lt_or_le (-a) 0 with g | g
        · have : (-a) / (-b) < 0 := Int.ediv_lt_of_lt_mul (by omega) (by omega)
          omega
        · have h3 : (-a) / (-b) ≤ (-a) / 2 := by
            rw [Int.le_ediv_iff_mul_le (by omega)]
            have h5 : 0 ≤ (-a) / (-b) := Int.ediv_nonneg g (by omega)
            have h6 : (-a) / (-b) * 2 ≤ (-a) / (-b) * -b := Int.mul_le_mul_of_nonneg_left (by omega) h5
            rw [Int.mul_comm (-b)] at e
            omega
          omega
  · left
    have := ediv_i64 (b := b) ha (by omega)
    exact this
theorem split_eq (k : Nat) (us : Int) (h : I64 us) : num_Split.f (k + 1) us = some (us / 86400000000, us % 86400000000) := by
  unfold num_Split.f
  have hc : I64 86400000000 := by unfold I64; omega
  rw [div_eq k us 86400000000 h hc (by omega), mod_eq us 86400000000 h hc (by omega), fl_pos (by omega), md_pos (by omega), out_in (ediv_i64 h (by omega))]
  rfl
end Go.Proofs.YthkmckmfgglafaaGreat.Civ
namespace Go.Proofs.YthkmckmfgglafaaGreat.Civ
set_option linter.unusedVariables false
set_option linter.unusedSimpArgs false
open Go.RowKit Go.Proofs.YthkmckmfgglafaaGreatW.PrintWords Go.Proofs.YthkmckmfgglafaaGreatW.PrintLast Go.Proofs.YthkmckmfgglafaaGreatW.PrintMore Go.Proofs.YthkmckmfgglafaaGreat.P
/-- A wide number's sign and parts. -/
def ng (x : Int) : Bool := decide (x < 0)
def dg (x : Int) : List Int := dig (ab x)
theorem ng_true {x : Int} (h : x < 0) : ng x = true := decide_eq_true h
theorem ng_false {x : Int} (h : ¬ x < 0) : ng x = false := decide_eq_false h
def Wide (x : Int) : Prop := -6277101735386680763835789423207666416102355444464034512896 < x ∧ x < 6277101735386680763835789423207666416102355444464034512896
theorem ab_wide {x : Int} (h : Wide x) : 0 ≤ ab x ∧ ab x < 6277101735386680763835789423207666416102355444464034512896 := by unfold Wide at h; unfold ab; split <;> omega
theorem ab_zero {x : Int} : ab x = 0 ↔ x = 0 := by unfold ab; split <;> omega
theorem wide_i64 {x : Int} (h : I64 x) : Wide x := by unfold I64 at h; unfold Wide; omega
theorem of_list (u v : Int) (h0 : 0 ≤ u) (h1 : u ≤ 18446744073709551615) : ((List.replicate 6 0).set (0 : Int).toNat (u % 4294967296)).set (1 : Int).toNat (u / 4294967296) = dig u := by
  show [u % 4294967296, u / 4294967296, 0, 0, 0, 0] = dig u
  rw [dig_of (a := u) (a0 := u % 4294967296) (a1 := u / 4294967296) (a2 := 0) (a3 := 0) (a4 := 0) (a5 := 0) (by omega) (by omega)]
theorem of_eq (a : Int) (h : I64 a) : computusref01_Of.f a = some (ng a, dg a) := by
  have h' := h
  unfold I64 at h'
  unfold computusref01_Of.f
  by_cases g : a < 0
  · have e : IntKind.u64.wrap (-IntKind.u64.wrap a) = -a := by rw [u64m, u64m]; omega
    simp only [if_pos g, if_pos (show (6 : Int) ≤ 35184372088832 by omega), Option.bind_some, e, List.length_replicate]
    rw [and32 (by omega) (by omega), if_pos (by decide), if_pos (by decide), of_list (-a) 0 (by omega) (by omega)]
    unfold dg; rw [ab_neg g, ng_true g]; rfl
  · have e : IntKind.u64.wrap a = a := by rw [u64m]; omega
    simp only [if_neg g, if_pos (show (6 : Int) ≤ 35184372088832 by omega), Option.bind_some, e, List.length_replicate]
    rw [and32 (by omega) (by omega), if_pos (by decide), if_pos (by decide), of_list a 0 (by omega) (by omega)]
    unfold dg; rw [ab_pos (by omega), ng_false g]; rfl
theorem minus_ev {x : Int} (h : Wide x) : Ev (fun k => computusref01_Minus.f k (ng x) (dg x)) (ng (-x), dg (-x)) := by
  have hb := ab_wide h
  have e : dg (-x) = dg x := by unfold dg ab; congr 1; split <;> split <;> omega
  unfold computusref01_Minus.f
  rw [e]
  by_cases g : x < 0
  · rw [ng_true g, ng_false (by omega)]
    exact Ev.now _
  · rw [ng_false g]
    simp only [Bool.false_eq_true, if_false]
    refine Ev.bind (zero_ev hb.1 hb.2) ?_
    have : (!decide (ab x = 0)) = ng (-x) := by
      by_cases z : x = 0
      · subst z; rfl
      · rw [decide_eq_false (fun f => z (ab_zero.1 f)), ng_true (by omega)]; rfl
    rw [this]; exact Ev.now _
theorem plus_ev {x y : Int} (hx : Wide x) (hy : Wide y) (hs : Wide (x + y)) : Ev (fun k => computusref01_Plus.f k (ng x) (dg x) (ng y) (dg y)) (ng (x + y), dg (x + y)) := by
  have bx := ab_wide hx
  have by_ := ab_wide hy
  have bs := ab_wide hs
  unfold computusref01_Plus.f
  have cmpE := cmp_ev bx.1 bx.2 by_.1 by_.2
  by_cases g : ng x = ng y
  · simp only [beq_iff_eq, if_pos g]
    have e1 : ab x + ab y = ab (x + y) := by
      unfold ng at g
      have := decide_eq_decide.1 g
      unfold ab; split <;> split <;> split <;> omega
    have e2 : ng x = ng (x + y) := by
      unfold ng at g ⊢
      have := decide_eq_decide.1 g
      apply decide_eq_decide.2; omega
    refine Ev.bind (add_ev bx.1 by_.1 (by omega)) ?_
    rw [e1, e2]
    exact Ev.now _
  · simp only [beq_iff_eq, if_neg g]
    have g' : ¬ (x < 0 ↔ y < 0) := fun f => g (by unfold ng; exact decide_eq_decide.2 f)
    refine Ev.bind cmpE ?_
    by_cases hc : ab y ≤ ab x
    · have e1 : ab x - ab y = ab (x + y) := by revert hc; unfold ab; split <;> split <;> split <;> omega
      have c0 : sgn (ab x) (ab y) ≥ 0 := by unfold sgn; split <;> omega
      simp only [if_pos c0]
      by_cases hn : x < 0
      · simp only [ng_true hn, if_true]
        refine Ev.bind cmpE (Ev.bind (less_ev bx.2 by_.1 hc) ?_)
        have : decide (sgn (ab x) (ab y) > 0) = ng (x + y) := by
          unfold ng
          apply decide_eq_decide.2
          unfold sgn
          revert hc; unfold ab; rw [if_pos hn, if_neg (by omega)]
          intro hc
          rw [if_neg (by omega)]
          split <;> omega
        rw [this, e1]
        exact Ev.now _
      · simp only [ng_false hn, Bool.false_eq_true, if_false]
        refine Ev.bind (less_ev bx.2 by_.1 hc) ?_
        have : ¬ x + y < 0 := by revert hc; unfold ab; rw [if_neg hn, if_pos (by omega)]; omega
        rw [e1, ng_false this]
        exact Ev.now _
    · have e1 : ab y - ab x = ab (x + y) := by revert hc; unfold ab; split <;> split <;> split <;> omega
      have c0 : ¬ sgn (ab x) (ab y) ≥ 0 := by unfold sgn; rw [if_pos (by omega)]; omega
      simp only [if_neg c0]
      refine Ev.bind (less_ev by_.2 bx.1 (by omega)) ?_
      have : ng y = ng (x + y) := by
        unfold ng
        apply decide_eq_decide.2
        revert hc; unfold ab; split <;> split <;> omega
      rw [e1, this]
      exact Ev.now _
theorem small_step (k : Nat) {n : Bool} {x : List Int} {i v : Int} (h0 : 2 ≤ i) (h6 : i < 6) (hl : x.length = 6) (hv : rd x i = v) :
    computusref01_Small.l0 (k + 1) i n x = if v = 0 then computusref01_Small.l0 k (i + 1) n x else some (0, 10) := by
  simp only [computusref01_Small.l0]
  rw [if_pos h6, if_pos (by omega), hl, if_pos (by omega), hv, w64 (by omega) (by omega)]
theorem small_end (k : Nat) (x u v : Int) (hu : 0 ≤ u ∧ u < 4294967296) (hv : 0 ≤ v ∧ v < 4294967296) (e : ab x = u + 4294967296 * v) (l : List Int) (hl : l.length = 6) (h0 : rd l 0 = u) (h1 : rd l 1 = v) :
    computusref01_Small.l0 (k + 2) 6 (ng x) l = some (out x) := by
  have eo : Go.bits .or .u64 (IntKind.u64.wrap (v * 4294967296)) u = ab x := by
    rw [u64w (by omega) (by omega), orj 32 (by omega) (by omega) (by omega) (by omega) hu.1 (by omega)]; omega
  simp only [computusref01_Small.l0]
  rw [if_neg (by omega), hl, if_pos (by decide), if_pos (by decide), h0, h1, eo]
  have hb : 0 ≤ ab x ∧ ab x ≤ 18446744073709551615 := by omega
  clear eo e h0 h1 hl hu hv
  by_cases g : x < 0
  · rw [ng_true g, if_pos rfl]
    rw [ab_neg g] at hb ⊢
    by_cases q : -x ≤ 9223372036854775808
    · rw [decide_eq_true q, out_in (by unfold I64; omega)]
      simp only [computusref01_Small.j1, if_true]
      rw [u64m]; congr 2; unfold wrap64; omega
    · rw [decide_eq_false q, out_no (by unfold I64; omega)]
      simp only [computusref01_Small.j1]
      rfl
  · rw [ng_false g]
    rw [ab_pos (by omega)] at hb ⊢
    simp only [Bool.false_eq_true, if_false, computusref01_Small.j1]
    by_cases q : x ≥ 9223372036854775808
    · rw [if_pos q, out_no (by unfold I64; omega)]
    · rw [if_neg q, out_in (by unfold I64; omega), w64 (by omega) (by omega)]
theorem small_ev {x : Int} (h : Wide x) : Ev (fun k => computusref01_Small.f k (ng x) (dg x)) (out x) := by
  have hb := ab_wide h
  obtain ⟨a0, a1, a2, a3, a4, a5, ea, ⟨A0, A1, A2, A3, A4, A5⟩, va⟩ := dig_form hb.1 hb.2
  refine Ev.of (computusref01_Small.mono (ng x) (dg x)) (k := 6) ?_
  unfold computusref01_Small.f dg
  rw [ea]
  have no : 18446744073709551616 ≤ ab x → out x = (0, 10) := fun g => out_no (by unfold ab at g; unfold I64; split at g <;> omega)
  rw [small_step 5 (i := 2) (v := a2) (by omega) (by omega) rfl rfl]
  by_cases g2 : a2 = 0
  · rw [if_pos g2, small_step 4 (i := 2 + 1) (v := a3) (by omega) (by omega) rfl rfl]
    by_cases g3 : a3 = 0
    · rw [if_pos g3, small_step 3 (i := 2 + 1 + 1) (v := a4) (by omega) (by omega) rfl rfl]
      by_cases g4 : a4 = 0
      · rw [if_pos g4, small_step 2 (i := 2 + 1 + 1 + 1) (v := a5) (by omega) (by omega) rfl rfl]
        by_cases g5 : a5 = 0
        · rw [if_pos g5]
          exact small_end 0 x a0 a1 A0 A1 (by rw [va, g2, g3, g4, g5]; omega) _ rfl rfl rfl
        · rw [if_neg g5, no (by rw [va, g2, g3, g4]; omega)]
      · rw [if_neg g4, no (by rw [va, g2, g3]; omega)]
    · rw [if_neg g3, no (by rw [va, g2]; omega)]
  · rw [if_neg g2, no (by rw [va]; omega)]
theorem row_next (k : Nat) {x5 row L1 L2 : List Int} {s1 s2 : Bool} {c i j u v : Int} (hi : 0 ≤ i) (hj : 0 ≤ j) (hi2 : i < 2) (hj3 : j < 3) (l1 : L1.length = 6) (l2 : L2.length = 6) (lr : row.length = 6) (hc : 0 ≤ c ∧ c < 4294967296)
    (hu : rd L1 i = u) (hv : rd L2 j = v) (ub : 0 ≤ u ∧ u < 4294967296) (vb : 0 ≤ v ∧ v < 4294967296) :
    ∃ d c', computusref01_Times.l1 (k + 1) x5 i row c j s1 L1 s2 L2 = computusref01_Times.l1 k x5 i (row.set (i + j).toNat d) c' (j + 1) s1 L1 s2 L2 ∧ (0 ≤ d ∧ d < 4294967296) ∧ (0 ≤ c' ∧ c' < 4294967296) ∧ c + u * v = d + 4294967296 * c' := by
  have hp := mul_bd ub.1 (show u ≤ 4294967295 by omega) vb.1 (show v ≤ 4294967295 by omega)
  refine ⟨(c + u * v) % 4294967296, (c + u * v) / 4294967296, ?_, part_bd _, by omega, part_eq _⟩
  simp only [computusref01_Times.l1]
  rw [w64 (x := i + j) (by omega) (by omega), if_pos hj3, if_pos hi, l1, if_pos (by omega), if_pos hj, l2, if_pos (by omega), if_pos (by omega), lr, if_pos (by omega), hu, hv, u64w (x := u * v) (by omega) (by omega), u64w (x := c + u * v) (by omega) (by omega), and32 (by omega) (by omega), w64 (by omega) (by omega)]
theorem row_end (x5 : List Int) (i : Int) (r : List Int) (c : Int) (s1 : Bool) (L1 : List Int) (s2 : Bool) (L2 : List Int) {t : List Int} {res : Bool × List Int} (hi : 0 ≤ i ∧ i < 5) (ha : Ev (fun k => computusref01_add.f k x5 r) t)
    (h : Ev (fun k => computusref01_Times.l0 k t (i + 1) s1 L1 s2 L2) res) : Ev (fun k => computusref01_Times.l1 k x5 i r c 3 s1 L1 s2 L2) res := by
  refine Ev.step (f := fun k => (computusref01_add.f k x5 r).bind fun t => computusref01_Times.l0 k t (wrap64 (i + 1)) s1 L1 s2 L2) (fun k => ?_) (Ev.bind ha ?_)
  · simp only [computusref01_Times.l1]
    rw [if_neg (by omega)]
  · rw [w64 (by omega) (by omega)]; exact h
theorem two_parts {x : Int} (h0 : 0 ≤ x) (h1 : x ≤ 18446744073709551615) : ∃ x0 x1, dig x = [x0, x1, 0, 0, 0, 0] ∧ (0 ≤ x0 ∧ x0 < 4294967296) ∧ (0 ≤ x1 ∧ x1 < 4294967296) ∧ x = x0 + 4294967296 * x1 := by
  refine ⟨x % 4294967296, x / 4294967296, ?_, part_bd _, by omega, part_eq _⟩
  exact dig_of (by omega) (by omega)
theorem row0 {x0 y0 y1 d0 d1 d2 c1 c2 c3 : Int} (E0 : 0 + x0 * y0 = d0 + 4294967296 * c1) (E1 : c1 + x0 * y1 = d1 + 4294967296 * c2) (E2 : c2 + x0 * 0 = d2 + 4294967296 * c3) (C2 : 0 ≤ c2 ∧ c2 < 4294967296) (D2 : 0 ≤ d2 ∧ d2 < 4294967296) :
    x0 * (y0 + 4294967296 * y1) = d0 + 4294967296 * (d1 + 4294967296 * d2) := by
  have : x0 * (y0 + 4294967296 * y1) = x0 * y0 + 4294967296 * (x0 * y1) := by rw [Int.mul_add, Int.mul_left_comm]
  omega
theorem times_ev {x y : Int} (hx : -18446744073709551615 ≤ x ∧ x ≤ 18446744073709551615) (hy : -18446744073709551615 ≤ y ∧ y ≤ 18446744073709551615) :
    Ev (fun k => computusref01_Times.f k (ng x) (dg x) (ng y) (dg y)) (ng (x * y), dg (x * y)) := by
  have bx : 0 ≤ ab x ∧ ab x ≤ 18446744073709551615 := by unfold ab; split <;> omega
  have by_ : 0 ≤ ab y ∧ ab y ≤ 18446744073709551615 := by unfold ab; split <;> omega
  have hm := mul_sign x y
  have eab : ab (x * y) = ab x * ab y := by
    have hp := mul_bd bx.1 bx.2 by_.1 by_.2
    have neg_ab : ∀ P : Int, 0 ≤ P → ab (-P) = P := fun P h => by unfold ab; split <;> omega
    rw [← hm]; split
    · exact neg_ab _ hp.1
    · rw [ab_pos hp.1]
  have esg : (ng x != ng y) = true → ¬ ab x * ab y = 0 → x * y < 0 := by
    intro g z
    have hp := mul_bd bx.1 bx.2 by_.1 by_.2
    have g' : ((decide (x < 0)) != (decide (y < 0))) = true := g
    rw [← hm, if_pos g']; omega
  have esg2 : (ng x != ng y) = false → ¬ x * y < 0 := by
    intro g
    have hp := mul_bd bx.1 bx.2 by_.1 by_.2
    rw [← hm, if_neg (by unfold ng at g; rw [g]; simp)]; omega
  obtain ⟨x0, x1, ex, X0, X1, vx⟩ := two_parts bx.1 bx.2
  obtain ⟨y0, y1, ey, Y0, Y1, vy⟩ := two_parts by_.1 by_.2
  have hprod : ab x * ab y = x0 * ab y + 4294967296 * (x1 * ab y) := by
    conv => lhs; rw [vx]
    rw [Int.add_mul, Int.mul_assoc]
  have b0 := mul_bd X0.1 (show x0 ≤ 4294967295 by omega) by_.1 by_.2
  have b1 := mul_bd X1.1 (show x1 ≤ 4294967295 by omega) by_.1 by_.2
  have fin : Ev (fun k => computusref01_Times.l0 k (dig (ab x * ab y)) 2 (ng x) (dg x) (ng y) (dg y)) (ng (x * y), dg (x * y)) := by
    unfold dg
    rw [eab]
    by_cases g : (ng x != ng y) = true
    · refine Ev.step (f := fun k => (computusref01_zero.f k (dig (ab x * ab y))).bind fun t => some (!t, dig (ab x * ab y))) (fun k => ?_) (Ev.bind (zero_ev (by omega) (by omega)) ?_)
      · simp only [computusref01_Times.l0]
        rw [if_neg (by omega), if_pos g]
      · by_cases z : ab x * ab y = 0
        · have : x * y = 0 := by rw [← ab_zero, eab]; exact z
          rw [decide_eq_true z, this]; exact Ev.now _
        · rw [decide_eq_false z, ng_true (esg g z)]; exact Ev.now _
    · have g' : (ng x != ng y) = false := by simpa using g
      refine Ev.at1 fun k => ?_
      simp only [computusref01_Times.l0]
      rw [if_neg (by omega), if_neg g, ng_false (esg2 g')]
  have Z : (0 : Int) ≤ 0 ∧ (0 : Int) < 4294967296 := by decide
  have r1 : Ev (fun k => computusref01_Times.l1 k (dig (x0 * ab y)) 1 [0, 0, 0, 0, 0, 0] 0 0 (ng x) (dg x) (ng y) (dg y)) (ng (x * y), dg (x * y)) := by
    obtain ⟨K, hK⟩ : Ev (fun k => computusref01_Times.l1 k (dig (x0 * ab y)) 1 (dig (4294967296 * (x1 * ab y))) 0 3 (ng x) (dg x) (ng y) (dg y)) (ng (x * y), dg (x * y)) := by
      refine row_end _ _ _ _ _ _ _ _ (by omega) (add_ev b0.1 (by omega) (by omega)) ?_
      rw [← hprod]; exact fin
    refine ⟨K + 3, fun k hk => ?_⟩
    obtain ⟨m, rfl⟩ : ∃ m, k = m + 3 := ⟨k - 3, by omega⟩
    obtain ⟨d0, c1, e0, D0, C1, E0⟩ := row_next (m + 2) (x5 := dig (x0 * ab y)) (row := [0, 0, 0, 0, 0, 0]) (L1 := dg x) (L2 := dg y) (s1 := ng x) (s2 := ng y) (c := 0) (i := 1) (j := 0) (u := x1) (v := y0) (by decide) (by decide) (by decide) (by decide) rfl rfl rfl Z (by unfold dg; rw [ex]; rfl) (by unfold dg; rw [ey]; rfl) X1 Y0
    refine e0.trans ?_
    show computusref01_Times.l1 (m + 2) (dig (x0 * ab y)) 1 [0, d0, 0, 0, 0, 0] c1 1 (ng x) (dg x) (ng y) (dg y) = _
    obtain ⟨d1, c2, e1, D1, C2, E1⟩ := row_next (m + 1) (x5 := dig (x0 * ab y)) (row := [0, d0, 0, 0, 0, 0]) (L1 := dg x) (L2 := dg y) (s1 := ng x) (s2 := ng y) (c := c1) (i := 1) (j := 1) (u := x1) (v := y1) (by decide) (by decide) (by decide) (by decide) rfl rfl rfl C1 (by unfold dg; rw [ex]; rfl) (by unfold dg; rw [ey]; rfl) X1 Y1
    refine e1.trans ?_
    show computusref01_Times.l1 (m + 1) (dig (x0 * ab y)) 1 [0, d0, d1, 0, 0, 0] c2 2 (ng x) (dg x) (ng y) (dg y) = _
    obtain ⟨d2, c3, e2, D2, C3, E2⟩ := row_next m (x5 := dig (x0 * ab y)) (row := [0, d0, d1, 0, 0, 0]) (L1 := dg x) (L2 := dg y) (s1 := ng x) (s2 := ng y) (c := c2) (i := 1) (j := 2) (u := x1) (v := 0) (by decide) (by decide) (by decide) (by decide) rfl rfl rfl C2 (by unfold dg; rw [ex]; rfl) (by unfold dg; rw [ey]; rfl) X1 Z
    refine e2.trans ?_
    have hr := row0 E0 E1 E2 C2 D2
    rw [← vy] at hr
    have hc3 : c3 = 0 := by omega
    subst hc3
    show computusref01_Times.l1 m (dig (x0 * ab y)) 1 [0, d0, d1, d2, 0, 0] 0 3 (ng x) (dg x) (ng y) (dg y) = _
    rw [← dig_of (a := 4294967296 * (x1 * ab y)) (a0 := 0) (a1 := d0) (a2 := d1) (a3 := d2) (a4 := 0) (a5 := 0) ⟨Z, D0, D1, D2, Z, Z⟩ (by rw [hr]; omega)]
    exact hK m (by omega)
  have r0 : Ev (fun k => computusref01_Times.l1 k (dig 0) 0 [0, 0, 0, 0, 0, 0] 0 0 (ng x) (dg x) (ng y) (dg y)) (ng (x * y), dg (x * y)) := by
    obtain ⟨K, hK⟩ : Ev (fun k => computusref01_Times.l1 k (dig 0) 0 (dig (x0 * ab y)) 0 3 (ng x) (dg x) (ng y) (dg y)) (ng (x * y), dg (x * y)) := by
      refine row_end _ _ _ _ _ _ _ _ (by omega) (add_ev (by omega) b0.1 (by omega)) ?_
      rw [Int.zero_add]
      refine Ev.step (f := fun k => computusref01_Times.l1 k (dig (x0 * ab y)) 1 [0, 0, 0, 0, 0, 0] 0 0 (ng x) (dg x) (ng y) (dg y)) (fun k => ?_) r1
      simp only [computusref01_Times.l0]
      rw [if_pos (by omega), if_pos (by omega)]
      rfl
    refine ⟨K + 3, fun k hk => ?_⟩
    obtain ⟨m, rfl⟩ : ∃ m, k = m + 3 := ⟨k - 3, by omega⟩
    obtain ⟨d0, c1, e0, D0, C1, E0⟩ := row_next (m + 2) (x5 := dig 0) (row := [0, 0, 0, 0, 0, 0]) (L1 := dg x) (L2 := dg y) (s1 := ng x) (s2 := ng y) (c := 0) (i := 0) (j := 0) (u := x0) (v := y0) (by decide) (by decide) (by decide) (by decide) rfl rfl rfl Z (by unfold dg; rw [ex]; rfl) (by unfold dg; rw [ey]; rfl) X0 Y0
    refine e0.trans ?_
    show computusref01_Times.l1 (m + 2) (dig 0) 0 [d0, 0, 0, 0, 0, 0] c1 1 (ng x) (dg x) (ng y) (dg y) = _
    obtain ⟨d1, c2, e1, D1, C2, E1⟩ := row_next (m + 1) (x5 := dig 0) (row := [d0, 0, 0, 0, 0, 0]) (L1 := dg x) (L2 := dg y) (s1 := ng x) (s2 := ng y) (c := c1) (i := 0) (j := 1) (u := x0) (v := y1) (by decide) (by decide) (by decide) (by decide) rfl rfl rfl C1 (by unfold dg; rw [ex]; rfl) (by unfold dg; rw [ey]; rfl) X0 Y1
    refine e1.trans ?_
    show computusref01_Times.l1 (m + 1) (dig 0) 0 [d0, d1, 0, 0, 0, 0] c2 2 (ng x) (dg x) (ng y) (dg y) = _
    obtain ⟨d2, c3, e2, D2, C3, E2⟩ := row_next m (x5 := dig 0) (row := [d0, d1, 0, 0, 0, 0]) (L1 := dg x) (L2 := dg y) (s1 := ng x) (s2 := ng y) (c := c2) (i := 0) (j := 2) (u := x0) (v := 0) (by decide) (by decide) (by decide) (by decide) rfl rfl rfl C2 (by unfold dg; rw [ex]; rfl) (by unfold dg; rw [ey]; rfl) X0 Z
    refine e2.trans ?_
    have hr := row0 E0 E1 E2 C2 D2
    rw [← vy] at hr
    have hc3 : c3 = 0 := by omega
    subst hc3
    show computusref01_Times.l1 m (dig 0) 0 [d0, d1, d2, 0, 0, 0] 0 3 (ng x) (dg x) (ng y) (dg y) = _
    rw [← dig_of (a := x0 * ab y) (a0 := d0) (a1 := d1) (a2 := d2) (a3 := 0) (a4 := 0) (a5 := 0) ⟨D0, D1, D2, Z, Z, Z⟩ (by rw [hr]; omega)]
    exact hK m (by omega)
  unfold computusref01_Times.f
  refine Ev.pos (by decide) ?_
  refine Ev.step (f := fun k => computusref01_Times.l1 k (dig 0) 0 [0, 0, 0, 0, 0, 0] 0 0 (ng x) (dg x) (ng y) (dg y)) (fun k => ?_) r0
  simp only [computusref01_Times.l0]
  rw [if_pos (by omega), if_pos (by omega)]
  rfl
end Go.Proofs.YthkmckmfgglafaaGreat.Civ
namespace Go.Proofs.YthkmckmfgglafaaGreat.Civ
set_option linter.unusedVariables false
set_option linter.unusedSimpArgs false
open Go.RowKit Go.Proofs.YthkmckmfgglafaaGreatW.PrintWords Go.Proofs.YthkmckmfgglafaaGreatW.PrintLast Go.Proofs.YthkmckmfgglafaaGreatW.PrintMore Go.Proofs.YthkmckmfgglafaaGreat.P
def Half (x : Int) : Prop := -3138550867693340381917894711603833208051177722232017256448 ≤ x ∧ x ≤ 3138550867693340381917894711603833208051177722232017256448
theorem ab_half {x : Int} (h : Half x) : 0 ≤ ab x ∧ ab x ≤ 3138550867693340381917894711603833208051177722232017256448 := by unfold Half at h; unfold ab; split <;> omega
theorem half_i64 {x : Int} (h : I64 x) : Half x := by unfold I64 at h; unfold Half; omega
theorem half_wide {x : Int} (h : Half x) : Wide x := by unfold Half at h; unfold Wide; omega
theorem wide_neg {a : Int} (ha : Wide a) : Wide (-a) := by unfold Wide at *; omega
theorem i64_word {a : Int} (ha : I64 a) : -18446744073709551615 ≤ a ∧ a ≤ 18446744073709551615 := by unfold I64 at ha; omega
end Go.Proofs.YthkmckmfgglafaaGreat.Civ
namespace Go.Proofs.YthkmckmfgglafaaGreat.Civ
set_option linter.unusedVariables false
set_option linter.unusedSimpArgs false
open Go.RowKit Go.Proofs.YthkmckmfgglafaaGreatW.PrintWords Go.Proofs.YthkmckmfgglafaaGreatW.PrintLast Go.Proofs.YthkmckmfgglafaaGreatW.PrintMore Go.Proofs.YthkmckmfgglafaaGreat.P
theorem pow_pos' (s : Nat) : (0 : Int) < 2 ^ s := by exact_mod_cast Nat.two_pow_pos s
theorem pow_split (s : Nat) (h : s < 32) : (4294967296 : Int) = 2 ^ s * (2 * 2 ^ (31 - s)) := by
  have e : (4294967296 : Int) = 2 ^ 32 := rfl
  rw [e, ← Int.pow_succ', ← Int.pow_add]
  congr 1; omega
/-- A bit of a part is a bit of the number. -/
theorem part_bit (x : Int) (s : Nat) (h : s < 32) : x % 4294967296 / 2 ^ s % 2 = x / 2 ^ s % 2 := by
  have hp := pow_pos' s
  have e : x = x % 4294967296 + 2 ^ s * (2 * 2 ^ (31 - s) * (x / 4294967296)) := by
    rw [← Int.mul_assoc, ← pow_split s h]; omega
  have e2 : x / 2 ^ s = x % 4294967296 / 2 ^ s + 2 * 2 ^ (31 - s) * (x / 4294967296) := by
    conv => lhs; rw [e]
    exact Int.add_mul_ediv_left _ _ (Int.ne_of_gt hp)
  rw [e2, Int.mul_assoc]; omega
theorem low_div (a : Int) (L : Int) (hL : 0 < L) (s : Nat) : a / L / 2 ^ s = a / (L * 2 ^ s) := Int.ediv_ediv_of_nonneg (by omega)
theorem rd_bit (a : Int) (n : Nat) (h : n < 192) : ∃ u, rd (dig a) ((n : Int) / 32) = u ∧ (0 ≤ u ∧ u < 4294967296) ∧ u / 2 ^ (n % 32) % 2 = a / 2 ^ n % 2 := by
  have hs : n % 32 < 32 := Nat.mod_lt _ (by omega)
  have hn : n = 32 * (n / 32) + n % 32 := by omega
  have hq : n / 32 = 0 ∨ n / 32 = 1 ∨ n / 32 = 2 ∨ n / 32 = 3 ∨ n / 32 = 4 ∨ n / 32 = 5 := by omega
  have hi : (n : Int) / 32 = ((n / 32 : Nat) : Int) := by omega
  rw [hi]
  generalize n % 32 = s at *
  generalize n / 32 = q at *
  subst hn
  rw [Int.pow_add]
  rcases hq with e | e | e | e | e | e <;> subst e
  · exact ⟨a % 4294967296, rfl, part_bd _, by rw [part_bit _ _ hs]; simp⟩
  · exact ⟨a / 4294967296 % 4294967296, rfl, part_bd _, by rw [part_bit _ _ hs, low_div _ _ (by omega)]; rfl⟩
  · exact ⟨a / 4294967296 / 4294967296 % 4294967296, rfl, part_bd _, by rw [part_bit _ _ hs, show a / 4294967296 / 4294967296 = a / 18446744073709551616 by omega, low_div _ _ (by omega)]; rfl⟩
  · exact ⟨a / 4294967296 / 4294967296 / 4294967296 % 4294967296, rfl, part_bd _, by rw [part_bit _ _ hs, show a / 4294967296 / 4294967296 / 4294967296 = a / 79228162514264337593543950336 by omega, low_div _ _ (by omega)]; rfl⟩
  · exact ⟨a / 4294967296 / 4294967296 / 4294967296 / 4294967296 % 4294967296, rfl, part_bd _, by rw [part_bit _ _ hs, show a / 4294967296 / 4294967296 / 4294967296 / 4294967296 = a / 340282366920938463463374607431768211456 by omega, low_div _ _ (by omega)]; rfl⟩
  · exact ⟨a / 4294967296 / 4294967296 / 4294967296 / 4294967296 / 4294967296 % 4294967296, rfl, part_bd _, by rw [part_bit _ _ hs, show a / 4294967296 / 4294967296 / 4294967296 / 4294967296 / 4294967296 = a / 1461501637330902918203684832716283019655932542976 by omega, low_div _ _ (by omega)]; rfl⟩
/-- A bit that is not set is set. -/
theorem set_bit (N : Int) (n : Nat) (h : n < 192) (h0 : 0 ≤ N) (h1 : N < 6277101735386680763835789423207666416102355444464034512896) (hm : N % 2 ^ (n + 1) = 0) :
    ∃ u, rd (dig N) ((n : Int) / 32) = u ∧ (0 ≤ u ∧ u < 4294967296) ∧ u % 2 ^ (n % 32 + 1) = 0 ∧ (dig N).set ((n : Int) / 32).toNat (u + 2 ^ (n % 32)) = dig (N + 2 ^ n) := by
  have hs : n % 32 < 32 := Nat.mod_lt _ (by omega)
  have hn : n = 32 * (n / 32) + n % 32 := by omega
  have hq : n / 32 = 0 ∨ n / 32 = 1 ∨ n / 32 = 2 ∨ n / 32 = 3 ∨ n / 32 = 4 ∨ n / 32 = 5 := by omega
  have hi : (n : Int) / 32 = ((n / 32 : Nat) : Int) := by omega
  rw [hi]
  generalize n % 32 = s at *
  generalize n / 32 = q at *
  subst hn
  have hp := pow_pos' s
  have hP := pow_split s hs
  have hsucc : (2 : Int) ^ (s + 1) = 2 * 2 ^ s := Int.pow_succ' _ _
  have hs1 : (4294967296 : Int) = 2 ^ (s + 1) * 2 ^ (31 - s) := by rw [hsucc, Int.mul_comm 2, Int.mul_assoc]; exact hP
  obtain ⟨w, hw⟩ : ∃ w, N = 2 ^ (32 * q + s + 1) * w := ⟨_, (Int.mul_ediv_cancel' (Int.dvd_of_emod_eq_zero hm)).symm⟩
  obtain ⟨a0, a1, a2, a3, a4, a5, ea, ⟨A0, A1, A2, A3, A4, A5⟩, va⟩ := dig_form h0 h1
  have up : ∀ u : Int, 0 ≤ u → u < 4294967296 → u % 2 ^ (s + 1) = 0 → u + 2 ^ s < 4294967296 := by
    intro u u0 u1 um
    obtain ⟨v, hv⟩ : ∃ v, u = 2 ^ (s + 1) * v := ⟨_, (Int.mul_ediv_cancel' (Int.dvd_of_emod_eq_zero um)).symm⟩
    have hlt : v < 2 ^ (31 - s) := by
      rcases Int.lt_or_le v (2 ^ (31 - s)) with g | g
      · exact g
      · have := Int.mul_le_mul_of_nonneg_left g (show (0 : Int) ≤ 2 ^ (s + 1) by omega)
        omega
    have := Int.mul_le_mul_of_nonneg_left (show v + 1 ≤ 2 ^ (31 - s) by omega) (show (0 : Int) ≤ 2 ^ (s + 1) by omega)
    rw [Int.mul_add] at this
    omega
  have modz : ∀ (u rest z : Int), u + 4294967296 * rest = 2 ^ (s + 1) * z → u % 2 ^ (s + 1) = 0 := by
    intro u rest z e
    have : u = 2 ^ (s + 1) * (z - 2 ^ (31 - s) * rest) := by rw [Int.mul_sub, ← Int.mul_assoc, ← hs1]; omega
    rw [this]; exact Int.mul_emod_right _ _
  rcases hq with e | e | e | e | e | e <;> subst e
  · have hpw : (2 : Int) ^ (32 * 0 + s + 1) = 1 * 2 ^ (s + 1) := by rw [Nat.add_assoc, Int.pow_add]; rfl
    have hpw2 : (2 : Int) ^ (32 * 0 + s) = 1 * 2 ^ s := by rw [Int.pow_add]; rfl
    have hN : a0 + 4294967296 * (a1 + 4294967296 * (a2 + 4294967296 * (a3 + 4294967296 * (a4 + 4294967296 * (a5))))) = 2 ^ (s + 1) * w := by
      rw [hpw, Int.mul_assoc] at hw
      generalize 2 ^ (s + 1) * w = W at *
      omega
    have hz := modz _ _ _ hN
    refine ⟨a0, by rw [ea]; rfl, A0, hz, ?_⟩
    rw [ea, hpw2]
    show [a0 + 2 ^ s, a1, a2, a3, a4, a5] = _
    exact (dig_of (a := N + 1 * 2 ^ s) ⟨⟨by omega, up a0 A0.1 A0.2 hz⟩, A1, A2, A3, A4, A5⟩ (by rw [va]; omega)).symm
  · have hpw : (2 : Int) ^ (32 * 1 + s + 1) = 4294967296 * 2 ^ (s + 1) := by rw [Nat.add_assoc, Int.pow_add]; rfl
    have hpw2 : (2 : Int) ^ (32 * 1 + s) = 4294967296 * 2 ^ s := by rw [Int.pow_add]; rfl
    have hN : a1 + 4294967296 * (a2 + 4294967296 * (a3 + 4294967296 * (a4 + 4294967296 * (a5)))) = 2 ^ (s + 1) * w := by
      rw [hpw, Int.mul_assoc] at hw
      generalize 2 ^ (s + 1) * w = W at *
      omega
    have hz := modz _ _ _ hN
    refine ⟨a1, by rw [ea]; rfl, A1, hz, ?_⟩
    rw [ea, hpw2]
    show [a0, a1 + 2 ^ s, a2, a3, a4, a5] = _
    exact (dig_of (a := N + 4294967296 * 2 ^ s) ⟨A0, ⟨by omega, up a1 A1.1 A1.2 hz⟩, A2, A3, A4, A5⟩ (by rw [va]; omega)).symm
  · have hpw : (2 : Int) ^ (32 * 2 + s + 1) = 18446744073709551616 * 2 ^ (s + 1) := by rw [Nat.add_assoc, Int.pow_add]; rfl
    have hpw2 : (2 : Int) ^ (32 * 2 + s) = 18446744073709551616 * 2 ^ s := by rw [Int.pow_add]; rfl
    have hN : a2 + 4294967296 * (a3 + 4294967296 * (a4 + 4294967296 * (a5))) = 2 ^ (s + 1) * w := by
      rw [hpw, Int.mul_assoc] at hw
      generalize 2 ^ (s + 1) * w = W at *
      omega
    have hz := modz _ _ _ hN
    refine ⟨a2, by rw [ea]; rfl, A2, hz, ?_⟩
    rw [ea, hpw2]
    show [a0, a1, a2 + 2 ^ s, a3, a4, a5] = _
    exact (dig_of (a := N + 18446744073709551616 * 2 ^ s) ⟨A0, A1, ⟨by omega, up a2 A2.1 A2.2 hz⟩, A3, A4, A5⟩ (by rw [va]; omega)).symm
  · have hpw : (2 : Int) ^ (32 * 3 + s + 1) = 79228162514264337593543950336 * 2 ^ (s + 1) := by rw [Nat.add_assoc, Int.pow_add]; rfl
    have hpw2 : (2 : Int) ^ (32 * 3 + s) = 79228162514264337593543950336 * 2 ^ s := by rw [Int.pow_add]; rfl
    have hN : a3 + 4294967296 * (a4 + 4294967296 * (a5)) = 2 ^ (s + 1) * w := by
      rw [hpw, Int.mul_assoc] at hw
      generalize 2 ^ (s + 1) * w = W at *
      omega
    have hz := modz _ _ _ hN
    refine ⟨a3, by rw [ea]; rfl, A3, hz, ?_⟩
    rw [ea, hpw2]
    show [a0, a1, a2, a3 + 2 ^ s, a4, a5] = _
    exact (dig_of (a := N + 79228162514264337593543950336 * 2 ^ s) ⟨A0, A1, A2, ⟨by omega, up a3 A3.1 A3.2 hz⟩, A4, A5⟩ (by rw [va]; omega)).symm
  · have hpw : (2 : Int) ^ (32 * 4 + s + 1) = 340282366920938463463374607431768211456 * 2 ^ (s + 1) := by rw [Nat.add_assoc, Int.pow_add]; rfl
    have hpw2 : (2 : Int) ^ (32 * 4 + s) = 340282366920938463463374607431768211456 * 2 ^ s := by rw [Int.pow_add]; rfl
    have hN : a4 + 4294967296 * (a5) = 2 ^ (s + 1) * w := by
      rw [hpw, Int.mul_assoc] at hw
      generalize 2 ^ (s + 1) * w = W at *
      omega
    have hz := modz _ _ _ hN
    refine ⟨a4, by rw [ea]; rfl, A4, hz, ?_⟩
    rw [ea, hpw2]
    show [a0, a1, a2, a3, a4 + 2 ^ s, a5] = _
    exact (dig_of (a := N + 340282366920938463463374607431768211456 * 2 ^ s) ⟨A0, A1, A2, A3, ⟨by omega, up a4 A4.1 A4.2 hz⟩, A5⟩ (by rw [va]; omega)).symm
  · have hpw : (2 : Int) ^ (32 * 5 + s + 1) = 1461501637330902918203684832716283019655932542976 * 2 ^ (s + 1) := by rw [Nat.add_assoc, Int.pow_add]; rfl
    have hpw2 : (2 : Int) ^ (32 * 5 + s) = 1461501637330902918203684832716283019655932542976 * 2 ^ s := by rw [Int.pow_add]; rfl
    have hN : a5 + 4294967296 * (0) = 2 ^ (s + 1) * w := by
      rw [hpw, Int.mul_assoc] at hw
      generalize 2 ^ (s + 1) * w = W at *
      omega
    have hz := modz _ _ _ hN
    refine ⟨a5, by rw [ea]; rfl, A5, hz, ?_⟩
    rw [ea, hpw2]
    show [a0, a1, a2, a3, a4, a5 + 2 ^ s] = _
    exact (dig_of (a := N + 1461501637330902918203684832716283019655932542976 * 2 ^ s) ⟨A0, A1, A2, A3, A4, ⟨by omega, up a5 A5.1 A5.2 hz⟩⟩ (by rw [va]; omega)).symm
/-- One bit of the division. -/
theorem divide_loop (a b : Int) (ha : 0 ≤ a) (ha1 : a < 6277101735386680763835789423207666416102355444464034512896) (hb : 0 < b) (hb1 : b ≤ 3138550867693340381917894711603833208051177722232017256448) (j : Nat) : ∀ Q R : Int, j ≤ 192 → 0 ≤ Q → 0 ≤ R → R < b → a / 2 ^ j = b * Q + R →
    Ev (fun k => computusref01_divide.l0 k (dig a) (dig b) (dig (Q * 2 ^ j)) (dig R) ((j : Int) - 1)) (dig (a / b), dig (a % b)) := by
  induction j with
  | zero =>
    intro Q R hj hQ hR hRb he
    rw [Int.pow_zero, Int.ediv_one] at he
    have h := (Int.ediv_emod_unique (a := a) (b := b) (r := R) (q := Q) hb).2 ⟨by omega, hR, hRb⟩
    refine Ev.at1 fun k => ?_
    simp only [computusref01_divide.l0]
    rw [if_neg (by omega), h.1, h.2, Int.pow_zero, Int.mul_one]
  | succ n ih =>
    intro Q R hj hQ hR hRb he
    have hpn := pow_pos' n
    have hp1 := pow_pos' (n + 1)
    have hs1 : (2 : Int) ^ (n + 1) = 2 ^ n * 2 := Int.pow_succ _ _
    -- the next bit
    have hbit : a / 2 ^ n = 2 * (a / 2 ^ (n + 1)) + a / 2 ^ n % 2 := by
      have e : a / 2 ^ (n + 1) = a / 2 ^ n / 2 := by rw [hs1, Int.ediv_ediv_of_nonneg (by omega)]
      rw [e]; omega
    obtain ⟨u, hu, ub, hub⟩ := rd_bit a n (by omega)
    obtain ⟨c, hc⟩ : ∃ c, a / 2 ^ n % 2 = c := ⟨_, rfl⟩
    have hc01 : 0 ≤ c ∧ c ≤ 1 := by omega
    rw [hc] at hbit hub
    -- the bits of the quotient
    have hQ1 : Q * 2 ^ (n + 1) < 6277101735386680763835789423207666416102355444464034512896 := by
      have e := Int.mul_ediv_add_emod a (2 ^ (n + 1))
      have g := Int.emod_nonneg a (Int.ne_of_gt hp1)
      have h1 : Q ≤ b * Q := by
        have := Int.mul_le_mul_of_nonneg_right (show (1 : Int) ≤ b by omega) hQ
        omega
      have h2 : Q ≤ a / 2 ^ (n + 1) := by omega
      have h3 := Int.mul_le_mul_of_nonneg_left h2 (show (0 : Int) ≤ 2 ^ (n + 1) by omega)
      rw [Int.mul_comm Q]; omega
    have hQ0 : 0 ≤ Q * 2 ^ (n + 1) := Int.mul_nonneg hQ (by omega)
    obtain ⟨v, hv, vb, vm, vset⟩ := set_bit (Q * 2 ^ (n + 1)) n (by omega) hQ0 hQ1 (Int.mul_emod_left _ _)
    have hidx : wrap64 (Int.tdiv ((n + 1 : Nat) - 1 : Int) 32) = (n : Int) / 32 := by
      rw [show ((n + 1 : Nat) - 1 : Int) = (n : Int) by omega, td_pos (by omega), w64 (by omega) (by omega)]
    have hsh : IntKind.u64.wrap (Int.tmod ((n + 1 : Nat) - 1 : Int) 32) = ((n % 32 : Nat) : Int) := by
      rw [show ((n + 1 : Nat) - 1 : Int) = (n : Int) by omega, tm_pos (by omega), u64w (by omega) (by omega)]; omega
    have hn32 : n % 32 < 32 := Nat.mod_lt _ (by omega)
    have hshr : ∀ x : Int, shr .u64 x ((n % 32 : Nat) : Int) = x / 2 ^ (n % 32) := fun x => by
      unfold shr; rw [Int.toNat_natCast, Nat.min_eq_left (by show n % 32 ≤ 64; omega)]
    have hshl : shl .u64 1 ((n % 32 : Nat) : Int) = 2 ^ (n % 32) := by
      unfold shl; rw [Int.toNat_natCast, Nat.min_eq_left (by show n % 32 ≤ 64; omega), Int.one_mul, u64w]
      · have := pow_pos' (n % 32); omega
      · have : (2 : Int) ^ (n % 32) ≤ 2 ^ 31 := by exact_mod_cast Nat.pow_le_pow_right (by decide) (show n % 32 ≤ 31 by omega)
        omega
    have hand : Go.bits .and .u64 (u / 2 ^ (n % 32)) 1 = c := by
      have h1 := Int.ediv_le_self (2 ^ (n % 32)) ub.1
      have h0 := Int.ediv_nonneg ub.1 (b := 2 ^ (n % 32)) (by have := pow_pos' (n % 32); omega)
      rw [show (1 : Int) = 2 ^ 1 - 1 from rfl, bits_mask .u64 64 (by decide) wraps_u64 1 (by decide) _ h0 (by omega), ← hub]; rfl
    -- the rest, twice, and the bit
    have hRr : 2 * R + c < 6277101735386680763835789423207666416102355444464034512896 := by omega
    have hset0 : ∀ l, l = dig (R + R) → l.set (0 : Int).toNat (Go.bits .or .u64 (rd l 0) c) = dig (2 * R + c) := by
      intro l hl
      subst hl
      obtain ⟨a0, a1, a2, a3, a4, a5, ea, ⟨A0, A1, A2, A3, A4, A5⟩, va⟩ := dig_form (a := R + R) (by omega) (by omega)
      rw [ea]
      show [Go.bits .or .u64 a0 c, a1, a2, a3, a4, a5] = _
      rw [orj 1 (by omega) A0.1 (by show a0 % 2 = 0; omega) (by omega) hc01.1 (by show c < 2; omega)]
      exact (dig_of (a := 2 * R + c) ⟨by omega, A1, A2, A3, A4, A5⟩ (by omega)).symm
    refine Ev.succ ?_
    simp only [computusref01_divide.l0]
    refine Ev.pos (by omega) ?_
    refine Ev.bind (add_ev hR hR (by omega)) ?_
    rw [hidx, hsh]
    refine Ev.pos (by rw [dig_length]; decide) ?_
    refine Ev.pos (by omega) ?_
    refine Ev.pos (by rw [dig_length]; omega) ?_
    refine Ev.pos (by omega) ?_
    rw [hu, hshr, hand, hset0 _ rfl, hshl, hv]
    rw [orj (n % 32 + 1) (by omega) vb.1 vm (by omega) (by have := pow_pos' (n % 32); omega) (by have := pow_pos' (n % 32); rw [Int.pow_succ]; omega), vset, show (((n + 1 : Nat) : Int) - 1 - 1) = (n : Int) - 1 by omega, w64 (x := (n : Int) - 1) (by omega) (by omega)]
    refine Ev.bind0 rfl ?_
    refine Ev.bind (cmp_ev (by omega) hRr (by omega) (by omega)) ?_
    by_cases hg : b ≤ 2 * R + c
    · have : sgn (2 * R + c) b ≥ 0 := by unfold sgn; split <;> omega
      simp only [if_pos this]
      refine Ev.bind (less_ev hRr (by omega) hg) ?_
      refine Ev.pos (by rw [dig_length]; omega) ?_
      have e : Q * 2 ^ (n + 1) + 2 ^ n = (2 * Q + 1) * 2 ^ n := by rw [hs1, Int.add_mul, Int.one_mul, Int.mul_comm 2 Q, Int.mul_assoc, Int.mul_comm 2]
      rw [e]
      refine ih (2 * Q + 1) (2 * R + c - b) (by omega) (by omega) (by omega) (by omega) ?_
      have em : b * (2 * Q + 1) = 2 * (b * Q) + b := by rw [Int.mul_add, Int.mul_one, Int.mul_left_comm]
      rw [hbit, he, em]; omega
    · have : ¬ sgn (2 * R + c) b ≥ 0 := by unfold sgn; rw [if_pos (by omega)]; omega
      simp only [if_neg this]
      have e : Q * 2 ^ (n + 1) = (2 * Q) * 2 ^ n := by rw [hs1, Int.mul_comm 2 Q, Int.mul_assoc, Int.mul_comm 2]
      rw [e]
      refine ih (2 * Q) (2 * R + c) (by omega) (by omega) (by omega) (by omega) ?_
      have em : b * (2 * Q) = 2 * (b * Q) := Int.mul_left_comm _ _ _
      rw [hbit, he, em]; omega
end Go.Proofs.YthkmckmfgglafaaGreat.Civ
namespace Go.Proofs.YthkmckmfgglafaaGreat.Civ
set_option linter.unusedVariables false
set_option linter.unusedSimpArgs false
open Go.RowKit Go.Proofs.YthkmckmfgglafaaGreatW.PrintWords Go.Proofs.YthkmckmfgglafaaGreatW.PrintLast Go.Proofs.YthkmckmfgglafaaGreatW.PrintMore Go.Proofs.YthkmckmfgglafaaGreat.P
theorem divide_ev (a b : Int) (ha : 0 ≤ a) (ha1 : a < 6277101735386680763835789423207666416102355444464034512896) (hb : 0 < b) (hb1 : b ≤ 3138550867693340381917894711603833208051177722232017256448) :
    Ev (fun k => computusref01_divide.f k (dig a) (dig b)) (dig (a / b), dig (a % b)) := by
  unfold computusref01_divide.f
  refine Ev.pos (by decide) ?_
  have h := divide_loop a b ha ha1 hb hb1 192 0 0 (by omega) (by omega) (by omega) hb (by
    have : a / 2 ^ 192 = 0 := Int.ediv_eq_zero_of_lt ha ha1
    rw [this]; simp)
  exact h
theorem fl_signs1 {x y : Int} (hy : y ≠ 0) : fl x y = if (ng x != ng y) = true then (if ab x % ab y = 0 then -(ab x / ab y) else -(ab x / ab y) - 1) else ab x / ab y := by
  have h := fl_signs (a := x) (b := 1) (c := y) rfl rfl hy
  rw [Int.mul_one, ab_pos (a := 1) (by omega), Int.mul_one] at h
  rw [h]
  have e : (((decide (x < 0)) != (decide ((1 : Int) < 0))) != (decide (y < 0))) = (ng x != ng y) := by
    unfold ng; rw [show decide ((1 : Int) < 0) = false from rfl]; cases decide (x < 0) <;> cases decide (y < 0) <;> rfl
  rw [e]
theorem over_ev {x y : Int} (hx : Half x) (hy : Half y) (h0 : y ≠ 0) : Ev (fun k => computusref01_Over.f k (ng x) (dg x) (ng y) (dg y)) (ng (fl x y), dg (fl x y)) := by
  have bx := ab_half hx
  have by_ := ab_half hy
  have hD : 0 < ab y := by have := ab_zero (x := y); omega
  have hq0 : 0 ≤ ab x / ab y := Int.ediv_nonneg bx.1 (by omega)
  have hq1 : ab x / ab y ≤ ab x := Int.ediv_le_self _ bx.1
  have hr0 := Int.emod_nonneg (ab x) (Int.ne_of_gt hD)
  have hr1 := Int.emod_lt_of_pos (ab x) hD
  have neg_ab : ∀ P : Int, 0 ≤ P → ab (-P) = P := fun P h => by unfold ab; split <;> omega
  unfold computusref01_Over.f
  refine Ev.bind (divide_ev (ab x) (ab y) bx.1 (by omega) hD by_.2) ?_
  have hf := fl_signs1 (x := x) h0
  unfold dg at *
  by_cases g : (ng x != ng y) = true
  · rw [if_pos g] at hf
    simp only [if_pos g]
    refine Ev.bind (zero_ev hr0 (by omega)) ?_
    refine Ev.succ ?_
    simp only [computusref01_Over.j0, if_pos g]
    by_cases z : ab x % ab y = 0
    · rw [if_pos z] at hf
      rw [decide_eq_true z, hf, neg_ab _ hq0]
      refine Ev.neg (by simp) ?_
      refine Ev.bind (zero_ev hq0 (by omega)) ?_
      have : (!decide (ab x / ab y = 0)) = ng (-(ab x / ab y)) := by
        by_cases w : ab x / ab y = 0
        · rw [w]; rfl
        · rw [decide_eq_false w, ng_true (by omega)]; rfl
      rw [this]; exact Ev.now _
    · rw [if_neg z] at hf
      rw [decide_eq_false z, hf, show -(ab x / ab y) - 1 = -(ab x / ab y + 1) by omega, neg_ab _ (by omega), ng_true (by omega)]
      refine Ev.pos (by simp) ?_
      rw [of_eq 1 (by unfold I64; omega)]
      refine Ev.bind0 rfl ?_
      refine Ev.bind (add_ev hq0 (by decide) (show ab x / ab y + ab 1 < _ by rw [ab_pos (a := 1) (by omega)]; omega)) ?_
      rw [ab_pos (a := 1) (by omega)]
      refine Ev.bind (zero_ev (by omega) (by omega)) ?_
      rw [decide_eq_false (by omega)]
      exact Ev.now _
  · rw [if_neg g] at hf
    simp only [if_neg g]
    refine Ev.succ ?_
    simp only [computusref01_Over.j0, if_neg g]
    refine Ev.neg (by simp) ?_
    rw [hf, ng_false (by omega), ab_pos hq0]
    exact Ev.now _
theorem fl_half {x y : Int} (hx : Half x) (h0 : y ≠ 0) : Half (fl x y) := by
  have bx := ab_half hx
  have hD : 0 < ab y := by have := ab_zero (x := y); unfold ab at *; split at * <;> omega
  have hq0 : 0 ≤ ab x / ab y := Int.ediv_nonneg bx.1 (by omega)
  have hq1 : ab x / ab y ≤ ab x := Int.ediv_le_self _ bx.1
  rw [fl_signs1 h0]
  split
  · split
    · unfold Half; omega
    · rename_i z
      have e := Int.mul_ediv_add_emod (ab x) (ab y)
      have hr0 := Int.emod_nonneg (ab x) (Int.ne_of_gt hD)
      have hr1 := Int.emod_lt_of_pos (ab x) hD
      have h3 : ab x / ab y ≤ ab y * (ab x / ab y) := by
        have := Int.mul_le_mul_of_nonneg_right (show (1 : Int) ≤ ab y by omega) hq0
        omega
      unfold Half; omega
  · unfold Half; omega
theorem rdiv64_ev (a b : Int) (ha : I64 a) (hb : I64 b) (h0 : b ≠ 0) : Ev (fun k => computusref01_Div.f k a b) (out (fl a b)) := by
  unfold computusref01_Div.f
  rw [of_eq a ha, of_eq b hb]
  refine Ev.neg h0 ?_
  exact Ev.bind0 rfl (Ev.bind0 rfl (Ev.bind (over_ev (half_i64 ha) (half_i64 hb) h0) (Ev.bind (small_ev (half_wide (fl_half (half_i64 ha) h0))) (Ev.now _))))
theorem fl_word {a b : Int} (ha : I64 a) (h0 : b ≠ 0) : -18446744073709551615 ≤ fl a b ∧ fl a b ≤ 18446744073709551615 := by
  rcases fl_bd ha h0 with h | ⟨h1, h2⟩
  · exact i64_word h
  · subst h1; subst h2
    have : fl (-9223372036854775808) (-1) = 9223372036854775808 := by decide
    rw [this]; omega
theorem md_bd {a b : Int} (h0 : b ≠ 0) (hb : I64 b) : I64 (md a b) := by
  unfold I64 at *
  unfold md
  split
  · have g1 := Int.emod_nonneg (-a) (b := -b) (by omega)
    have g2 := Int.emod_lt_of_pos (-a) (b := -b) (by omega)
    omega
  · have g1 := Int.emod_nonneg a (b := b) (by omega)
    have g2 := Int.emod_lt_of_pos a (b := b) (by omega)
    omega
theorem rmod64_ev (a b : Int) (ha : I64 a) (hb : I64 b) (h0 : b ≠ 0) : Ev (fun k => computusref01_Mod.f k a b) (md a b, 0) := by
  have hfm := fl_md a b
  have hmd := md_bd (a := a) h0 hb
  have hw : Wide (b * fl a b) := by unfold I64 at ha hmd; unfold Wide; omega
  have hw2 : Wide (a + -(b * fl a b)) := by unfold I64 at hmd; unfold Wide; omega
  unfold computusref01_Mod.f
  rw [of_eq a ha, of_eq b hb]
  refine Ev.neg h0 ?_
  refine Ev.bind0 rfl (Ev.bind0 rfl (Ev.bind0 rfl (Ev.bind0 rfl (Ev.bind (over_ev (half_i64 ha) (half_i64 hb) h0) (Ev.bind (times_ev (i64_word hb) (fl_word ha h0)) (Ev.bind (minus_ev hw) (Ev.bind (plus_ev (wide_i64 ha) (wide_neg hw) hw2) (Ev.bind (small_ev hw2) ?_))))))))
  rw [show a + -(b * fl a b) = md a b by omega, out_in hmd]
  exact Ev.now _
end Go.Proofs.YthkmckmfgglafaaGreat.Civ
