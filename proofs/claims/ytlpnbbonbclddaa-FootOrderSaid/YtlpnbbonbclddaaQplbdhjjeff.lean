/- What the functions of package civil and of its reference answer, told of dates' days. -/
import Derived.Test.YtlpnbbonbclddaaQlpbppeiplm
import Derived.Test.YtlpnbbonbclddaaQnfebmchkeb
import Derived.Test.YtlpnbbonbclddaaQjdcnbjmghn
import Derived.Test.YtlpnbbonbclddaaQbbmlejlogb
import Derived.Test.YtlpnbbonbclddaaQbloaljmheb
namespace Go.Proofs.Ytlpnbbonbclddaa.Civ
set_option linter.unusedVariables false
set_option linter.unusedSimpArgs false
open Go.RowKit Go.Proofs.YtlpnbbonbclddaaW.PrintWords Go.Proofs.YtlpnbbonbclddaaW.PrintLast Go.Proofs.YtlpnbbonbclddaaW.PrintMore Go.Proofs.Ytlpnbbonbclddaa.P
theorem floor_eq (a b : Int) (ha : I64 a) (hb : 1 < b) (hb2 : b ≤ 4611686018427387904) : civil_floor.f a b = some (a / b, a % b) := by
  have c := cut_floor a (b := b) (by omega)
  have q := ediv_i64 (b := b) ha (by omega)
  have h1 := Int.emod_nonneg a (b := b) (by omega)
  have h2 := Int.emod_lt_of_pos a (b := b) (by omega)
  unfold civil_floor.f
  rw [if_neg (by omega)]
  by_cases h : Int.tmod a b < 0
  · obtain ⟨c1, c2, _⟩ := c.1 h
    rw [if_pos h, c1, c2]
    have q2 : a / b + 1 ≤ 9223372036854775807 := by
      have : a / b ≤ 4611686018427387904 := by
        rcases Int.lt_or_le a 0 with g | g
        · have : a / b < 0 := Int.ediv_lt_of_lt_mul (by omega) (by omega)
          omega
        · have := Int.ediv_le_ediv (c := 2) (by omega) ha.2
          have h3 : a / b ≤ a / 2 := by
            rw [Int.le_ediv_iff_mul_le (by omega)]
            have e := Int.mul_ediv_add_emod a b
            have h4 := Int.emod_nonneg a (b := b) (by omega)
            have h5 : 0 ≤ a / b := Int.ediv_nonneg g (by omega)
            have h6 : a / b * 2 ≤ a / b * b := Int.mul_le_mul_of_nonneg_left (by omega) h5
            rw [Int.mul_comm b] at e
            omega
          omega
      omega
    rw [w64 (x := a / b + 1) (by omega) (by omega), w64 (by omega) (by omega), w64 (by omega) (by omega)]
    congr 2 <;> omega
  · obtain ⟨c1, c2⟩ := c.2 h
    rw [if_neg h, c1, c2, w64 q.1 q.2]
theorem leap_eq (y : Int) : civil_Leap.f y = some (decide (lp y = 1)) := by
  unfold civil_Leap.f lp
  simp only [tmod_zero_iff y (b := 4) (by omega), tmod_zero_iff y (b := 100) (by omega)]
  have e : (Int.tmod y 400 == 0) = decide (y % 400 = 0) := by
    have := tmod_zero_iff y (b := 400) (by omega)
    by_cases h : y % 400 = 0
    · rw [decide_eq_true h, beq_iff_eq.2 (this.2 h)]
    · rw [decide_eq_false h, beq_eq_false_iff_ne.2 (fun g => h (this.1 g))]
  rw [e]
  by_cases h1 : y % 4 = 0
  · rw [if_pos h1]
    by_cases h2 : y % 100 = 0
    · rw [if_pos h2]
      by_cases h3 : y % 400 = 0 <;> simp [h1, h2, h3]
    · rw [if_neg h2]; simp [h1, h2]
  · rw [if_neg h1]; simp [h1]
theorem len_eq (y m : Int) : civil_Len.f y m = some (mlen y m) := by
  have hl := lp_01 y
  unfold civil_Len.f
  by_cases h1 : m < 1
  · rw [if_pos h1, mlen_out y m (by omega)]
  · rw [if_neg h1]
    by_cases h2 : m > 12
    · rw [if_pos h2, mlen_out y m (by omega)]
    · rw [if_neg h2]
      rcases twelve (m := m) (by omega) (by omega) with e | e | e | e | e | e | e | e | e | e | e | e <;> subst e <;> simp [mlen, civil_Len.t, leap_eq]
      by_cases h3 : lp y = 1
      · rw [if_pos h3, h3]; rfl
      · rw [if_neg h3, show lp y = 0 by omega]; rfl
/-- A date that can be. -/
def DateOk (y m d : Int) : Prop := -4718 ≤ y ∧ y ≤ 294282 ∧ 1 ≤ m ∧ m ≤ 12 ∧ 1 ≤ d ∧ d ≤ mlen y m
instance (y m d : Int) : Decidable (DateOk y m d) := inferInstanceAs (Decidable (_ ∧ _))
theorem right_eq (y m d : Int) : civil_Right.f y m d = some (decide (DateOk y m d)) := by
  have hl := mlen_up y m
  unfold civil_Right.f
  by_cases h1 : y ≥ -4718
  · rw [if_pos h1]
    by_cases h2 : y ≤ 294282
    · rw [if_pos h2]
      by_cases h3 : d ≥ 1
      · rw [if_pos h3, len_eq]
        simp only [Option.bind_some]
        have : decide (d ≤ mlen y m) = decide (DateOk y m d) := by
          apply decide_eq_decide.2
          unfold DateOk
          constructor
          · intro h
            rcases Int.lt_or_le m 1 with g | g
            · rw [mlen_out y m (by omega)] at h; omega
            · rcases Int.lt_or_le 12 m with g2 | g2
              · rw [mlen_out y m (by omega)] at h; omega
              · omega
          · omega
        rw [this]
      · rw [if_neg h3, decide_eq_false (by unfold DateOk; omega)]
    · rw [if_neg h2, decide_eq_false (by unfold DateOk; omega)]
  · rw [if_neg h1, decide_eq_false (by unfold DateOk; omega)]
theorem era_eq (y : Int) : y / 400 * 146097 + y % 400 * 365 + y % 400 / 4 - y % 400 / 100 = 365 * y + y / 4 - y / 100 + y / 400 := by omega
theorem day_eq (y m d : Int) (h1 : 1 ≤ m) (h2 : m ≤ 12) (hy : -2000000 ≤ y) (hy2 : y ≤ 2000000) (hd : -100 ≤ d) (hd2 : d ≤ 100) : civil_day.f y m d = some (dnum y m d) := by
  have hl := lp_01 y
  unfold civil_day.f
  by_cases hm : m ≤ 2
  · rw [if_pos hm, w64 (x := y - 1) (by omega) (by omega), floor_eq _ _ (by unfold I64; omega) (by omega) (by omega)]
    simp only [Option.bind_some]
    simp (disch := omega) only [w64, td_pos]
    have e := era_eq (y - 1)
    congr 1
    unfold dnum dby
    rcases (by omega : m = 1 ∨ m = 2) with e | e <;> subst e <;> simp [cum] <;> omega
  · rw [if_neg hm, floor_eq _ _ (by unfold I64; omega) (by omega) (by omega)]
    simp only [Option.bind_some]
    simp (disch := omega) only [w64, td_pos]
    have e := era_eq y
    have e2 := dby_succ y
    have e3 : dby (y + 1) = 365 * (y - 1999) + y / 4 - y / 100 + y / 400 - 484 := by unfold dby; omega
    congr 1
    unfold dnum
    have : cum y m = (153 * (m - 3) + 2) / 5 + 59 + lp y := by
      rcases (by omega : m = 3 ∨ m = 4 ∨ m = 5 ∨ m = 6 ∨ m = 7 ∨ m = 8 ∨ m = 9 ∨ m = 10 ∨ m = 11 ∨ m = 12) with e | e | e | e | e | e | e | e | e | e <;> subst e <;> simp [cum]
    omega
theorem days_eq (y m d : Int) : civil_Days.f y m d = some (if DateOk y m d then (dnum y m d, 0) else (0, 10)) := by
  unfold civil_Days.f
  rw [right_eq]
  simp only [Option.bind_some, decide_eq_true_eq]
  by_cases h : DateOk y m d
  · have hl := mlen_up y m
    have h' := h
    unfold DateOk at h'
    rw [if_pos h, if_pos h, day_eq y m d (by omega) (by omega) (by omega) (by omega) (by omega) (by omega)]
    rfl
  · rw [if_neg h, if_neg h]
/-- 0 is Sunday. -/
def wday (n : Int) : Int := (n + 6) % 7
theorem weekday_eq (n : Int) (h : I64 n) : civil_Weekday.f n = some (wday n) := by
  unfold civil_Weekday.f
  rw [floor_eq _ _ h (by omega) (by omega)]
  simp only [Option.bind_some]
  rw [w64 (by omega) (by omega), tm_pos (by omega)]
  congr 1
  unfold wday
  omega
end Go.Proofs.Ytlpnbbonbclddaa.Civ
