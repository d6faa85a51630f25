/- What the functions of package civil and of its reference answer, told of dates' days. -/
import Derived.Test.YtlpnbbonbclddaaQddohnjcahl
import Derived.Test.YtlpnbbonbclddaaQogbdjaeeap
import Derived.Test.YtlpnbbonbclddaaQjdcnbjmghn
import Derived.Test.YtlpnbbonbclddaaQggkjnpgone
import Derived.Test.YtlpnbbonbclddaaQhbelkoaemm
import Derived.Test.YtlpnbbonbclddaaQbloaljmheb
import Derived.Test.YtlpnbbonbclddaaQbbmlejlogb
namespace Go.Proofs.Ytlpnbbonbclddaa.Civ
set_option linter.unusedVariables false
set_option linter.unusedSimpArgs false
open Go.RowKit Go.Proofs.YtlpnbbonbclddaaW.PrintWords Go.Proofs.YtlpnbbonbclddaaW.PrintLast Go.Proofs.YtlpnbbonbclddaaW.PrintMore Go.Proofs.Ytlpnbbonbclddaa.P
theorem floor_eq (a b : Int) (ha : I64 a) (hb : 1 < b) (hb2 : b ≤ 4611686018427387904) : civil_floor.f a b = some (a / b, a % b) := by
  have c := cut_floor a (b := b) (by omega)
  have q := ediv_i64 (b := b) ha (by omega)
  have h1 := Int.emod_nonneg a (b := b) (by omega)
  have h2 := Int.emod_lt_of_pos a (b := b) (by omega)
  unfold civil_floor.f
  rw [if_neg (by omega)]
  by_cases h : Int.tmod a b < 0
  · obtain ⟨c1, c2, _⟩ := c.1 h
    rw [if_pos h, c1, c2]
    have q2 : a / b + 1 ≤ 9223372036854775807 := by
      have : a / b ≤ 4611686018427387904 := by
        rcases Int.lt_or_le a 0 with g | g
        · have : a / b < 0 := Int.ediv_lt_of_lt_mul (by omega) (by omega)
          omega
        · have := Int.ediv_le_ediv (c := 2) (by omega) ha.2
          have h3 : a / b ≤ a / 2 := by
            rw [Int.le_ediv_iff_mul_le (by omega)]
            have e := Int.mul_ediv_add_emod a b
            have h4 := Int.emod_nonneg a (b := b) (by omega)
            have h5 : 0 ≤ a / b := Int.ediv_nonneg g (by omega)
            have h6 : a / b * 2 ≤ a / b * b := Int.mul_le_mul_of_nonneg_left (by omega) h5
            rw [Int.mul_comm b] at e
            omega
          omega
      omega
    rw [w64 (x := a / b + 1) (by omega) (by omega), w64 (by omega) (by omega), w64 (by omega) (by omega)]
    congr 2 <;> omega
  · obtain ⟨c1, c2⟩ := c.2 h
    rw [if_neg h, c1, c2, w64 q.1 q.2]
theorem leap_eq (y : Int) : civil_Leap.f y = some (decide (lp y = 1)) := by
  unfold civil_Leap.f lp
  simp only [tmod_zero_iff y (b := 4) (by omega), tmod_zero_iff y (b := 100) (by omega)]
  have e : (Int.tmod y 400 == 0) = decide (y % 400 = 0) := by
    have := tmod_zero_iff y (b := 400) (by omega)
    by_cases h : y % 400 = 0
    · rw [decide_eq_true h, beq_iff_eq.2 (this.2 h)]
    · rw [decide_eq_false h, beq_eq_false_iff_ne.2 (fun g => h (this.1 g))]
  rw [e]
  by_cases h1 : y % 4 = 0
  · rw [if_pos h1]
    by_cases h2 : y % 100 = 0
    · rw [if_pos h2]
      by_cases h3 : y % 400 = 0 <;> simp [h1, h2, h3]
    · rw [if_neg h2]; simp [h1, h2]
  · rw [if_neg h1]; simp [h1]
theorem len_eq (y m : Int) : civil_Len.f y m = some (mlen y m) := by
  have hl := lp_01 y
  unfold civil_Len.f
  by_cases h1 : m < 1
  · rw [if_pos h1, mlen_out y m (by omega)]
  · rw [if_neg h1]
    by_cases h2 : m > 12
    · rw [if_pos h2, mlen_out y m (by omega)]
    · rw [if_neg h2]
      rcases twelve (m := m) (by omega) (by omega) with e | e | e | e | e | e | e | e | e | e | e | e <;> subst e <;> simp [mlen, civil_Len.t, leap_eq]
      by_cases h3 : lp y = 1
      · rw [if_pos h3, h3]; rfl
      · rw [if_neg h3, show lp y = 0 by omega]; rfl
/-- A date that can be. -/
def DateOk (y m d : Int) : Prop := -4718 ≤ y ∧ y ≤ 294282 ∧ 1 ≤ m ∧ m ≤ 12 ∧ 1 ≤ d ∧ d ≤ mlen y m
instance (y m d : Int) : Decidable (DateOk y m d) := inferInstanceAs (Decidable (_ ∧ _))
theorem right_eq (y m d : Int) : civil_Right.f y m d = some (decide (DateOk y m d)) := by
  have hl := mlen_up y m
  unfold civil_Right.f
  by_cases h1 : y ≥ -4718
  · rw [if_pos h1]
    by_cases h2 : y ≤ 294282
    · rw [if_pos h2]
      by_cases h3 : d ≥ 1
      · rw [if_pos h3, len_eq]
        simp only [Option.bind_some]
        have : decide (d ≤ mlen y m) = decide (DateOk y m d) := by
          apply decide_eq_decide.2
          unfold DateOk
          constructor
          · intro h
            rcases Int.lt_or_le m 1 with g | g
            · rw [mlen_out y m (by omega)] at h; omega
            · rcases Int.lt_or_le 12 m with g2 | g2
              · rw [mlen_out y m (by omega)] at h; omega
              · omega
          · omega
        rw [this]
      · rw [if_neg h3, decide_eq_false (by unfold DateOk; omega)]
    · rw [if_neg h2, decide_eq_false (by unfold DateOk; omega)]
  · rw [if_neg h1, decide_eq_false (by unfold DateOk; omega)]
theorem era_eq (y : Int) : y / 400 * 146097 + y % 400 * 365 + y % 400 / 4 - y % 400 / 100 = 365 * y + y / 4 - y / 100 + y / 400 := by omega
theorem day_eq (y m d : Int) (h1 : 1 ≤ m) (h2 : m ≤ 12) (hy : -2000000 ≤ y) (hy2 : y ≤ 2000000) (hd : -100 ≤ d) (hd2 : d ≤ 100) : civil_day.f y m d = some (dnum y m d) := by
  have hl := lp_01 y
  unfold civil_day.f
  by_cases hm : m ≤ 2
  · rw [if_pos hm, w64 (x := y - 1) (by omega) (by omega), floor_eq _ _ (by unfold I64; omega) (by omega) (by omega)]
    simp only [Option.bind_some]
    simp (disch := omega) only [w64, td_pos]
    have e := era_eq (y - 1)
    congr 1
    unfold dnum dby
    rcases (by omega : m = 1 ∨ m = 2) with e | e <;> subst e <;> simp [cum] <;> omega
  · rw [if_neg hm, floor_eq _ _ (by unfold I64; omega) (by omega) (by omega)]
    simp only [Option.bind_some]
    simp (disch := omega) only [w64, td_pos]
    have e := era_eq y
    have e2 := dby_succ y
    have e3 : dby (y + 1) = 365 * (y - 1999) + y / 4 - y / 100 + y / 400 - 484 := by unfold dby; omega
    congr 1
    unfold dnum
    have : cum y m = (153 * (m - 3) + 2) / 5 + 59 + lp y := by
      rcases (by omega : m = 3 ∨ m = 4 ∨ m = 5 ∨ m = 6 ∨ m = 7 ∨ m = 8 ∨ m = 9 ∨ m = 10 ∨ m = 11 ∨ m = 12) with e | e | e | e | e | e | e | e | e | e <;> subst e <;> simp [cum]
    omega
theorem days_eq (y m d : Int) : civil_Days.f y m d = some (if DateOk y m d then (dnum y m d, 0) else (0, 10)) := by
  unfold civil_Days.f
  rw [right_eq]
  simp only [Option.bind_some, decide_eq_true_eq]
  by_cases h : DateOk y m d
  · have hl := mlen_up y m
    have h' := h
    unfold DateOk at h'
    rw [if_pos h, if_pos h, day_eq y m d (by omega) (by omega) (by omega) (by omega) (by omega) (by omega)]
    rfl
  · rw [if_neg h, if_neg h]
theorem firstday_eq : civil_First.f = some (-2453698) := by
  unfold civil_First.f
  rw [day_eq _ _ _ (by omega) (by omega) (by omega) (by omega) (by omega) (by omega)]
  rfl
theorem lastday_eq : civil_Last.f = some 106754173 := by
  unfold civil_Last.f
  rw [day_eq _ _ _ (by omega) (by omega) (by omega) (by omega) (by omega) (by omega)]
  rfl
instance (n : Int) : Decidable (CanDay n) := inferInstanceAs (Decidable (_ ∧ _))
theorem can_eq (n : Int) : civil_can.f n = some (decide (CanDay n)) := by
  unfold civil_can.f
  rw [firstday_eq]
  simp only [Option.bind_some]
  by_cases h : n ≥ -2453698
  · rw [if_pos h, lastday_eq]
    simp only [Option.bind_some]
    congr 1
    apply decide_eq_decide.2
    unfold CanDay
    omega
  · rw [if_neg h, decide_eq_false (by unfold CanDay; omega)]
theorem march {n e c f k r : Int} (hc : 0 ≤ c ∧ c ≤ 3) (hf : 0 ≤ f ∧ f ≤ 24) (hk : 0 ≤ k ∧ k ≤ 3) (hn : n + 730425 = 146097 * e + 36524 * c + 1461 * f + 365 * k + r) :
    dby (400 * e + 100 * c + 4 * f + k + 1) = n + 306 - r := by unfold dby; omega
theorem march_leap {e c f : Int} (hc : 0 ≤ c ∧ c ≤ 3) (hf : 0 ≤ f ∧ f ≤ 24) (h : f < 24 ∨ c = 3) : lp (400 * e + 100 * c + 4 * f + 3 + 1) = 1 := by
  unfold lp; rw [if_pos (by omega)]
theorem parts_eq {n y m d : Int} (h : IsDate n y m d) (hb : -2000000000 ≤ n ∧ n ≤ 2000000000) : civil_parts.f n = some (y, m, d) := by
  unfold civil_parts.f
  rw [w64 (x := n + 730425) (by omega) (by omega), floor_eq _ _ (by unfold I64; omega) (by omega) (by omega)]
  simp only [Option.bind_some]
  have hn : n + 730425 = 146097 * ((n + 730425) / 146097) + (n + 730425) % 146097 := by omega
  have h0 : 0 ≤ (n + 730425) % 146097 ∧ (n + 730425) % 146097 < 146097 := by omega
  have he : -20000 ≤ (n + 730425) / 146097 ∧ (n + 730425) / 146097 ≤ 20000 := by omega
  generalize (n + 730425) / 146097 = e at *
  generalize (n + 730425) % 146097 = r0 at *
  rw [td_pos (a := r0) h0.1, w64 (x := r0 / 36524) (by omega) (by omega)]
  have hc : 0 ≤ mn (r0 / 36524) 3 ∧ mn (r0 / 36524) 3 ≤ 3 ∧ 0 ≤ r0 - mn (r0 / 36524) 3 * 36524 ∧ r0 - mn (r0 / 36524) 3 * 36524 ≤ 36524 ∧ (r0 - mn (r0 / 36524) 3 * 36524 = 36524 → mn (r0 / 36524) 3 = 3) := by
    unfold mn; split <;> omega
  generalize mn (r0 / 36524) 3 = c at *
  obtain ⟨hc0, hc1, hc2, hc3, hc4⟩ := hc
  rw [w64 (x := c * 36524) (by omega) (by omega), w64 (x := r0 - c * 36524) (by omega) (by omega)]
  obtain ⟨r1, hr1⟩ : ∃ r1, r1 = r0 - c * 36524 := ⟨_, rfl⟩
  rw [← hr1] at hc2 hc3 hc4 ⊢
  rw [td_pos (a := r1) hc2, w64 (x := r1 / 1461) (by omega) (by omega)]
  have hf : 0 ≤ r1 / 1461 ∧ r1 / 1461 ≤ 24 ∧ 0 ≤ r1 - r1 / 1461 * 1461 ∧ r1 - r1 / 1461 * 1461 ≤ 1460 ∧ (r1 - r1 / 1461 * 1461 = 1460 → r1 / 1461 < 24 ∨ c = 3) := by omega
  generalize r1 / 1461 = f at *
  obtain ⟨hf0, hf1, hf2, hf3, hf4⟩ := hf
  rw [w64 (x := f * 1461) (by omega) (by omega), w64 (x := r1 - f * 1461) (by omega) (by omega)]
  obtain ⟨r2, hr2⟩ : ∃ r2, r2 = r1 - f * 1461 := ⟨_, rfl⟩
  rw [← hr2] at hf2 hf3 hf4 ⊢
  rw [td_pos (a := r2) hf2, w64 (x := r2 / 365) (by omega) (by omega)]
  have hk : 0 ≤ mn (r2 / 365) 3 ∧ mn (r2 / 365) 3 ≤ 3 ∧ 0 ≤ r2 - mn (r2 / 365) 3 * 365 ∧ (r2 - mn (r2 / 365) 3 * 365 ≤ 364 ∨ r2 - mn (r2 / 365) 3 * 365 = 365 ∧ r2 = 1460 ∧ mn (r2 / 365) 3 = 3) := by
    unfold mn; split <;> omega
  generalize mn (r2 / 365) 3 = k at *
  obtain ⟨hk0, hk1, hk2, hk3⟩ := hk
  rw [w64 (x := k * 365) (by omega) (by omega), w64 (x := r2 - k * 365) (by omega) (by omega)]
  obtain ⟨r3, hr3⟩ : ∃ r3, r3 = r2 - k * 365 := ⟨_, rfl⟩
  rw [← hr3] at hk2 hk3 ⊢
  have hn' : n + 730425 = 146097 * e + 36524 * c + 1461 * f + 365 * k + r3 := by omega
  have hY := march ⟨hc0, hc1⟩ ⟨hf0, hf1⟩ ⟨hk0, hk1⟩ hn'
  have hL : r3 = 365 → lp (400 * e + 100 * c + 4 * f + k + 1) = 1 := by
    intro hr
    have e1 : k = 3 := by omega
    subst e1
    exact march_leap ⟨hc0, hc1⟩ ⟨hf0, hf1⟩ (by omega)
  have hlb := lp_01 (400 * e + 100 * c + 4 * f + k + 1)
  have hY2 := dby_succ (400 * e + 100 * c + 4 * f + k)
  have h365 : r3 ≤ 365 := by omega
  clear hr1 hr2 hr3 hn' hn hk3 hf4 hc4
  rw [w64 (x := 5 * r3) (by omega) (by omega), w64 (x := 5 * r3 + 2) (by omega) (by omega), td_pos (a := 5 * r3 + 2) (by omega), w64 (x := (5 * r3 + 2) / 153) (by omega) (by omega)]
  have hm : 0 ≤ (5 * r3 + 2) / 153 ∧ (5 * r3 + 2) / 153 ≤ 11 ∧ 153 * ((5 * r3 + 2) / 153) ≤ 5 * r3 + 2 ∧ 5 * r3 + 2 < 153 * ((5 * r3 + 2) / 153) + 153 := by omega
  generalize (5 * r3 + 2) / 153 = m' at *
  obtain ⟨hm0, hm1, hm2, hm3⟩ := hm
  rw [w64 (x := e * 400) (by omega) (by omega), w64 (x := c * 100) (by omega) (by omega), w64 (x := f * 4) (by omega) (by omega), w64 (x := e * 400 + c * 100) (by omega) (by omega), w64 (x := e * 400 + c * 100 + f * 4) (by omega) (by omega), w64 (x := e * 400 + c * 100 + f * 4 + k) (by omega) (by omega)]
  rw [w64 (x := 153 * m') (by omega) (by omega), w64 (x := 153 * m' + 2) (by omega) (by omega), td_pos (a := 153 * m' + 2) (by omega), w64 (x := (153 * m' + 2) / 5) (by omega) (by omega), w64 (x := r3 - (153 * m' + 2) / 5) (by omega) (by omega), w64 (x := r3 - (153 * m' + 2) / 5 + 1) (by omega) (by omega)]
  have ey : e * 400 + c * 100 + f * 4 + k = 400 * e + 100 * c + 4 * f + k := by omega
  rw [ey]
  have hyb : -9000000 ≤ 400 * e + 100 * c + 4 * f + k ∧ 400 * e + 100 * c + 4 * f + k ≤ 9000000 := by omega
  clear ey hc0 hc1 hc2 hc3 hf0 hf1 hf2 hf3 hk0 hk1 he h0
  generalize 400 * e + 100 * c + 4 * f + k = Y at *
  by_cases hge : m' ≥ 10
  · rw [if_pos hge, w64 (x := Y + 1) (by omega) (by omega), w64 (x := m' - 9) (by omega) (by omega)]
    have key : IsDate n (Y + 1) (m' - 9) (r3 - (153 * m' + 2) / 5 + 1) := by
      rcases (by omega : m' = 10 ∨ m' = 11) with e1 | e1 <;> subst e1
      · exact ⟨by omega, by omega, by omega, by simp [mlen]; omega, by simp [dnum, cum]; omega⟩
      · refine ⟨by omega, by omega, by omega, ?_, by simp [dnum, cum]; omega⟩
        simp only [mlen]
        by_cases g : r3 = 365
        · rw [hL g, g]; decide
        · rw [if_neg (by omega), if_pos (by omega)]; omega
    obtain ⟨rfl, rfl, rfl⟩ := h.unique key
    rfl
  · rw [if_neg hge, w64 (x := m' + 3) (by omega) (by omega)]
    have key : IsDate n Y (m' + 3) (r3 - (153 * m' + 2) / 5 + 1) := by
      rcases (by omega : m' = 0 ∨ m' = 1 ∨ m' = 2 ∨ m' = 3 ∨ m' = 4 ∨ m' = 5 ∨ m' = 6 ∨ m' = 7 ∨ m' = 8 ∨ m' = 9) with e1 | e1 | e1 | e1 | e1 | e1 | e1 | e1 | e1 | e1 <;> subst e1 <;>
        exact ⟨by omega, by omega, by omega, by simp [mlen]; omega, by simp [dnum, cum]; omega⟩
    obtain ⟨rfl, rfl, rfl⟩ := h.unique key
    rfl
theorem date_eq {n y m d : Int} (h : IsDate n y m d) (hc : CanDay n) : civil_Date.f n = some (y, m, d, 0) := by
  unfold civil_Date.f
  rw [can_eq]
  simp only [Option.bind_some, decide_eq_true_eq]
  have hc' := hc
  unfold CanDay at hc'
  rw [if_pos hc, parts_eq h (by omega)]
  rfl
theorem date_no {n : Int} (hc : ¬ CanDay n) : civil_Date.f n = some (0, 0, 0, 10) := by
  unfold civil_Date.f
  rw [can_eq]
  simp only [Option.bind_some, decide_eq_true_eq]
  rw [if_neg hc]
/-- 0 is Sunday. -/
def wday (n : Int) : Int := (n + 6) % 7
theorem weekday_eq (n : Int) (h : I64 n) : civil_Weekday.f n = some (wday n) := by
  unfold civil_Weekday.f
  rw [floor_eq _ _ h (by omega) (by omega)]
  simp only [Option.bind_some]
  rw [w64 (by omega) (by omega), tm_pos (by omega)]
  congr 1
  unfold wday
  omega
end Go.Proofs.Ytlpnbbonbclddaa.Civ
