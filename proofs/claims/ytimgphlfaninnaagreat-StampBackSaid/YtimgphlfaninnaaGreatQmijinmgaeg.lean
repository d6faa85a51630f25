import Derived.Test.YtimgphlfaninnaaGreatQofbcfccnhe
import Derived.Test.YtimgphlfaninnaaGreatQidpdokpcpl
import Derived.Test.YtimgphlfaninnaaGreatQpahojkofpm
namespace Go.Proofs.YtimgphlfaninnaaGreat.Civ
set_option linter.unusedVariables false
set_option linter.unusedSimpArgs false
open Go.RowKit Go.Proofs.YtimgphlfaninnaaGreatW.PrintWords Go.Proofs.YtimgphlfaninnaaGreatW.PrintLast Go.Proofs.YtimgphlfaninnaaGreatW.PrintMore Go.Proofs.YtimgphlfaninnaaGreat.P
theorem floor_eq (a b : Int) (ha : I64 a) (hb : 1 < b) (hb2 : b ≤ 4611686018427387904) : bG.f a b = some (a / b, a % b) := by
 have c := cut_floor a (b := b) (by omega)
 have q := ediv_i64 (b := b) ha (by omega)
 have h1 := Int.emod_nonneg a (b := b) (by omega)
 have h2 := Int.emod_lt_of_pos a (b := b) (by omega)
 unfold bG.f
 rw [if_neg (by omega)]
 by_cases h : Int.tmod a b < 0
 · obtain ⟨c1, c2, _⟩ := c.1 h
   rw [if_pos h, c1, c2]
   have q2 : a / b + 1 ≤ 9223372036854775807 := by
    have : a / b ≤ 4611686018427387904 := by
     rcases Int.lt_or_le a 0 with g | g
     · have : a / b < 0 := Int.ediv_lt_of_lt_mul (by omega) (by omega)
       omega
     · have := Int.ediv_le_ediv (c := 2) (by omega) ha.2
       have h3 : a / b ≤ a / 2 := by
        rw [Int.le_ediv_iff_mul_le (by omega)]
        have e := Int.mul_ediv_add_emod a b
        have h4 := Int.emod_nonneg a (b := b) (by omega)
        have h5 : 0 ≤ a / b := Int.ediv_nonneg g (by omega)
        have h6 : a / b * 2 ≤ a / b * b := Int.mul_le_mul_of_nonneg_left (by omega) h5
        rw [Int.mul_comm b] at e
        omega
       omega
    omega
   rw [w64 (x := a / b + 1) (by omega) (by omega), w64 (by omega) (by omega), w64 (by omega) (by omega)]
   congr 2 <;> omega
 · obtain ⟨c1, c2⟩ := c.2 h
   rw [if_neg h, c1, c2, w64 q.1 q.2]
theorem leap_eq (y : Int) : civil_Leap.f y = some (decide (lp y = 1)) := by
 unfold civil_Leap.f lp
 simp only [tmod_zero_iff y (b := 4) (by omega), tmod_zero_iff y (b := 100) (by omega)]
 have e : (Int.tmod y 400 == 0) = decide (y % 400 = 0) := by
  have := tmod_zero_iff y (b := 400) (by omega)
  by_cases h : y % 400 = 0
  · rw [decide_eq_true h, beq_iff_eq.2 (this.2 h)]
  · rw [decide_eq_false h, beq_eq_false_iff_ne.2 (fun g => h (this.1 g))]
 rw [e]
 by_cases h1 : y % 4 = 0
 · rw [if_pos h1]
   by_cases h2 : y % 100 = 0
   · rw [if_pos h2]
     by_cases h3 : y % 400 = 0 <;> simp [h1, h2, h3]
   · rw [if_neg h2]; simp [h1, h2]
 · rw [if_neg h1]; simp [h1]
theorem len_eq (y m : Int) : jC.f y m = some (mlen y m) := by
 have hl := lp_01 y
 unfold jC.f
 by_cases h1 : m < 1
 · rw [if_pos h1, mlen_out y m (by omega)]
 · rw [if_neg h1]
   by_cases h2 : m > 12
   · rw [if_pos h2, mlen_out y m (by omega)]
   · rw [if_neg h2]
     rcases twelve (m := m) (by omega) (by omega) with e | e | e | e | e | e | e | e | e | e | e | e <;> subst e <;> simp [mlen, jC.t, leap_eq]
     by_cases h3 : lp y = 1
     · rw [if_pos h3, h3]; rfl
     · rw [if_neg h3, show lp y = 0 by omega]; rfl
def DateOk (y m d : Int) : Prop := -4718 ≤ y ∧ y ≤ 294282 ∧ 1 ≤ m ∧ m ≤ 12 ∧ 1 ≤ d ∧ d ≤ mlen y m
instance (y m d : Int) : Decidable (DateOk y m d) := inferInstanceAs (Decidable (_ ∧ _))
theorem right_eq (y m d : Int) : jE.f y m d = some (decide (DateOk y m d)) := by
 have hl := mlen_up y m
 unfold jE.f
 by_cases h1 : y ≥ -4718
 · rw [if_pos h1]
   by_cases h2 : y ≤ 294282
   · rw [if_pos h2]
     by_cases h3 : d ≥ 1
     · rw [if_pos h3, len_eq]
       simp only [Option.bind_some]
       have : decide (d ≤ mlen y m) = decide (DateOk y m d) := by
        apply decide_eq_decide.2
        unfold DateOk
        constructor
        · intro h
          rcases Int.lt_or_le m 1 with g | g
          · rw [mlen_out y m (by omega)] at h; omega
          · rcases Int.lt_or_le 12 m with g2 | g2
            · rw [mlen_out y m (by omega)] at h; omega
            · omega
        · omega
       rw [this]
     · rw [if_neg h3, decide_eq_false (by unfold DateOk; omega)]
   · rw [if_neg h2, decide_eq_false (by unfold DateOk; omega)]
 · rw [if_neg h1, decide_eq_false (by unfold DateOk; omega)]
theorem era_eq (y : Int) : y / 400 * 146097 + y % 400 * 365 + y % 400 / 4 - y % 400 / 100 = 365 * y + y / 4 - y / 100 + y / 400 := by omega
theorem day_eq (y m d : Int) (h1 : 1 ≤ m) (h2 : m ≤ 12) (hy : -2000000 ≤ y) (hy2 : y ≤ 2000000) (hd : -100 ≤ d) (hd2 : d ≤ 100) : jM.f y m d = some (dnum y m d) := by
 have hl := lp_01 y
 unfold jM.f
 by_cases hm : m ≤ 2
 · rw [if_pos hm, w64 (x := y - 1) (by omega) (by omega), floor_eq _ _ (by unfold I64; omega) (by omega) (by omega)]
   simp only [Option.bind_some]
   simp (disch := omega) only [w64, td_pos]
   have e := era_eq (y - 1)
   congr 1
   unfold dnum dby
   rcases (by omega : m = 1 ∨ m = 2) with e | e <;> subst e <;> simp [cum] <;> omega
 · rw [if_neg hm, floor_eq _ _ (by unfold I64; omega) (by omega) (by omega)]
   simp only [Option.bind_some]
   simp (disch := omega) only [w64, td_pos]
   have e := era_eq y
   have e2 := dby_succ y
   have e3 : dby (y + 1) = 365 * (y - 1999) + y / 4 - y / 100 + y / 400 - 484 := by unfold dby; omega
   congr 1
   unfold dnum
   have : cum y m = (153 * (m - 3) + 2) / 5 + 59 + lp y := by
    rcases (by omega : m = 3 ∨ m = 4 ∨ m = 5 ∨ m = 6 ∨ m = 7 ∨ m = 8 ∨ m = 9 ∨ m = 10 ∨ m = 11 ∨ m = 12) with e | e | e | e | e | e | e | e | e | e <;> subst e <;> simp [cum]
   omega
theorem days_eq (y m d : Int) : jB.f y m d = some (if DateOk y m d then (dnum y m d, 0) else (0, 10)) := by
 unfold jB.f
 rw [right_eq]
 simp only [Option.bind_some, decide_eq_true_eq]
 by_cases h : DateOk y m d
 · have hl := mlen_up y m
   have h' := h
   unfold DateOk at h'
   rw [if_pos h, if_pos h, day_eq y m d (by omega) (by omega) (by omega) (by omega) (by omega) (by omega)]
   rfl
 · rw [if_neg h, if_neg h]
theorem firstday_eq : civil_First.f = some (-2453698) := by
 unfold civil_First.f
 rw [day_eq _ _ _ (by omega) (by omega) (by omega) (by omega) (by omega) (by omega)]
 rfl
theorem lastday_eq : civil_Last.f = some 106754173 := by
 unfold civil_Last.f
 rw [day_eq _ _ _ (by omega) (by omega) (by omega) (by omega) (by omega) (by omega)]
 rfl
instance (n : Int) : Decidable (CanDay n) := inferInstanceAs (Decidable (_ ∧ _))
theorem can_eq (n : Int) : jP.f n = some (decide (CanDay n)) := by
 unfold jP.f
 rw [firstday_eq]
 simp only [Option.bind_some]
 by_cases h : n ≥ -2453698
 · rw [if_pos h, lastday_eq]
   simp only [Option.bind_some]
   congr 1
   apply decide_eq_decide.2
   unfold CanDay
   omega
 · rw [if_neg h, decide_eq_false (by unfold CanDay; omega)]
theorem march {n e c f k r : Int} (hc : 0 ≤ c ∧ c ≤ 3) (hf : 0 ≤ f ∧ f ≤ 24) (hk : 0 ≤ k ∧ k ≤ 3) (hn : n + 730425 = 146097 * e + 36524 * c + 1461 * f + 365 * k + r) :
 dby (400 * e + 100 * c + 4 * f + k + 1) = n + 306 - r := by unfold dby; omega
theorem march_leap {e c f : Int} (hc : 0 ≤ c ∧ c ≤ 3) (hf : 0 ≤ f ∧ f ≤ 24) (h : f < 24 ∨ c = 3) : lp (400 * e + 100 * c + 4 * f + 3 + 1) = 1 := by
 unfold lp; rw [if_pos (by omega)]
theorem parts_eq {n y m d : Int} (h : IsDate n y m d) (hb : -2000000000 ≤ n ∧ n ≤ 2000000000) : bO.f n = some (y, m, d) := by
 unfold bO.f
 rw [w64 (x := n + 730425) (by omega) (by omega), floor_eq _ _ (by unfold I64; omega) (by omega) (by omega)]
 simp only [Option.bind_some]
 have hn : n + 730425 = 146097 * ((n + 730425) / 146097) + (n + 730425) % 146097 := by omega
 have h0 : 0 ≤ (n + 730425) % 146097 ∧ (n + 730425) % 146097 < 146097 := by omega
 have he : -20000 ≤ (n + 730425) / 146097 ∧ (n + 730425) / 146097 ≤ 20000 := by omega
 generalize (n + 730425) / 146097 = e at *
 generalize (n + 730425) % 146097 = r0 at *
 rw [td_pos (a := r0) h0.1, w64 (x := r0 / 36524) (by omega) (by omega)]
 have hc : 0 ≤ mn (r0 / 36524) 3 ∧ mn (r0 / 36524) 3 ≤ 3 ∧ 0 ≤ r0 - mn (r0 / 36524) 3 * 36524 ∧ r0 - mn (r0 / 36524) 3 * 36524 ≤ 36524 ∧ (r0 - mn (r0 / 36524) 3 * 36524 = 36524 → mn (r0 / 36524) 3 = 3) := by
  unfold mn; split <;> omega
 generalize mn (r0 / 36524) 3 = c at *
 obtain ⟨hc0, hc1, hc2, hc3, hc4⟩ := hc
 rw [w64 (x := c * 36524) (by omega) (by omega), w64 (x := r0 - c * 36524) (by omega) (by omega)]
 obtain ⟨r1, hr1⟩ : ∃ r1, r1 = r0 - c * 36524 := ⟨_, rfl⟩
 rw [← hr1] at hc2 hc3 hc4 ⊢
 rw [td_pos (a := r1) hc2, w64 (x := r1 / 1461) (by omega) (by omega)]
 have hf : 0 ≤ r1 / 1461 ∧ r1 / 1461 ≤ 24 ∧ 0 ≤ r1 - r1 / 1461 * 1461 ∧ r1 - r1 / 1461 * 1461 ≤ 1460 ∧ (r1 - r1 / 1461 * 1461 = 1460 → r1 / 1461 < 24 ∨ c = 3) := by omega
 generalize r1 / 1461 = f at *
 obtain ⟨hf0, hf1, hf2, hf3, hf4⟩ := hf
 rw [w64 (x := f * 1461) (by omega) (by omega), w64 (x := r1 - f * 1461) (by omega) (by omega)]
 obtain ⟨r2, hr2⟩ : ∃ r2, r2 = r1 - f * 1461 := ⟨_, rfl⟩
 rw [← hr2] at hf2 hf3 hf4 ⊢
 rw [td_pos (a := r2) hf2, w64 (x := r2 / 365) (by omega) (by omega)]
 have hk : 0 ≤ mn (r2 / 365) 3 ∧ mn (r2 / 365) 3 ≤ 3 ∧ 0 ≤ r2 - mn (r2 / 365) 3 * 365 ∧ (r2 - mn (r2 / 365) 3 * 365 ≤ 364 ∨ r2 - mn (r2 / 365) 3 * 365 = 365 ∧ r2 = 1460 ∧ mn (r2 / 365) 3 = 3) := by
  unfold mn; split <;> omega
 generalize mn (r2 / 365) 3 = k at *
 obtain ⟨hk0, hk1, hk2, hk3⟩ := hk
 rw [w64 (x := k * 365) (by omega) (by omega), w64 (x := r2 - k * 365) (by omega) (by omega)]
 obtain ⟨r3, hr3⟩ : ∃ r3, r3 = r2 - k * 365 := ⟨_, rfl⟩
 rw [← hr3] at hk2 hk3 ⊢
 have hn' : n + 730425 = 146097 * e + 36524 * c + 1461 * f + 365 * k + r3 := by omega
 have hY := march ⟨hc0, hc1⟩ ⟨hf0, hf1⟩ ⟨hk0, hk1⟩ hn'
 have hL : r3 = 365 → lp (400 * e + 100 * c + 4 * f + k + 1) = 1 := by
  intro hr
  have e1 : k = 3 := by omega
  subst e1
  exact march_leap ⟨hc0, hc1⟩ ⟨hf0, hf1⟩ (by omega)
 have hlb := lp_01 (400 * e + 100 * c + 4 * f + k + 1)
 have hY2 := dby_succ (400 * e + 100 * c + 4 * f + k)
 have h365 : r3 ≤ 365 := by omega
 clear hr1 hr2 hr3 hn' hn hk3 hf4 hc4
 rw [w64 (x := 5 * r3) (by omega) (by omega), w64 (x := 5 * r3 + 2) (by omega) (by omega), td_pos (a := 5 * r3 + 2) (by omega), w64 (x := (5 * r3 + 2) / 153) (by omega) (by omega)]
 have hm : 0 ≤ (5 * r3 + 2) / 153 ∧ (5 * r3 + 2) / 153 ≤ 11 ∧ 153 * ((5 * r3 + 2) / 153) ≤ 5 * r3 + 2 ∧ 5 * r3 + 2 < 153 * ((5 * r3 + 2) / 153) + 153 := by omega
 generalize (5 * r3 + 2) / 153 = m' at *
 obtain ⟨hm0, hm1, hm2, hm3⟩ := hm
 rw [w64 (x := e * 400) (by omega) (by omega), w64 (x := c * 100) (by omega) (by omega), w64 (x := f * 4) (by omega) (by omega), w64 (x := e * 400 + c * 100) (by omega) (by omega), w64 (x := e * 400 + c * 100 + f * 4) (by omega) (by omega), w64 (x := e * 400 + c * 100 + f * 4 + k) (by omega) (by omega)]
 rw [w64 (x := 153 * m') (by omega) (by omega), w64 (x := 153 * m' + 2) (by omega) (by omega), td_pos (a := 153 * m' + 2) (by omega), w64 (x := (153 * m' + 2) / 5) (by omega) (by omega), w64 (x := r3 - (153 * m' + 2) / 5) (by omega) (by omega), w64 (x := r3 - (153 * m' + 2) / 5 + 1) (by omega) (by omega)]
 have ey : e * 400 + c * 100 + f * 4 + k = 400 * e + 100 * c + 4 * f + k := by omega
 rw [ey]
 have hyb : -9000000 ≤ 400 * e + 100 * c + 4 * f + k ∧ 400 * e + 100 * c + 4 * f + k ≤ 9000000 := by omega
 clear ey hc0 hc1 hc2 hc3 hf0 hf1 hf2 hf3 hk0 hk1 he h0
 generalize 400 * e + 100 * c + 4 * f + k = Y at *
 by_cases hge : m' ≥ 10
 · rw [if_pos hge, w64 (x := Y + 1) (by omega) (by omega), w64 (x := m' - 9) (by omega) (by omega)]
   have key : IsDate n (Y + 1) (m' - 9) (r3 - (153 * m' + 2) / 5 + 1) := by
    rcases (by omega : m' = 10 ∨ m' = 11) with e1 | e1 <;> subst e1
    · exact ⟨by omega, by omega, by omega, by simp [mlen]; omega, by simp [dnum, cum]; omega⟩
    · refine ⟨by omega, by omega, by omega, ?_, by simp [dnum, cum]; omega⟩
      simp only [mlen]
      by_cases g : r3 = 365
      · rw [hL g, g]; decide
      · rw [if_neg (by omega), if_pos (by omega)]; omega
   obtain ⟨rfl, rfl, rfl⟩ := h.unique key
   rfl
 · rw [if_neg hge, w64 (x := m' + 3) (by omega) (by omega)]
   have key : IsDate n Y (m' + 3) (r3 - (153 * m' + 2) / 5 + 1) := by
    rcases (by omega : m' = 0 ∨ m' = 1 ∨ m' = 2 ∨ m' = 3 ∨ m' = 4 ∨ m' = 5 ∨ m' = 6 ∨ m' = 7 ∨ m' = 8 ∨ m' = 9) with e1 | e1 | e1 | e1 | e1 | e1 | e1 | e1 | e1 | e1 <;> subst e1 <;>
     exact ⟨by omega, by omega, by omega, by simp [mlen]; omega, by simp [dnum, cum]; omega⟩
   obtain ⟨rfl, rfl, rfl⟩ := h.unique key
   rfl
theorem date_eq {n y m d : Int} (h : IsDate n y m d) (hc : CanDay n) : bT.f n = some (y, m, d, 0) := by
 unfold bT.f
 rw [can_eq]
 simp only [Option.bind_some, decide_eq_true_eq]
 have hc' := hc
 unfold CanDay at hc'
 rw [if_pos hc, parts_eq h (by omega)]
 rfl
theorem date_no {n : Int} (hc : ¬ CanDay n) : bT.f n = some (0, 0, 0, 10) := by
 unfold bT.f
 rw [can_eq]
 simp only [Option.bind_some, decide_eq_true_eq]
 rw [if_neg hc]
def wday (n : Int) : Int := (n + 6) % 7
theorem weekday_eq (n : Int) (h : I64 n) : civil_Weekday.f n = some (wday n) := by
 unfold civil_Weekday.f
 rw [floor_eq _ _ h (by omega) (by omega)]
 simp only [Option.bind_some]
 rw [w64 (by omega) (by omega), tm_pos (by omega)]
 congr 1
 unfold wday
 omega
def shY (y m k : Int) : Int := (12 * y + m - 1 + k) / 12
def shM (y m k : Int) : Int := (12 * y + m - 1 + k) % 12 + 1
def shD (y m d k : Int) : Int := if mlen (shY y m k) (shM y m k) < d then mlen (shY y m k) (shM y m k) else d
theorem shM_bd (y m k : Int) : 1 ≤ shM y m k ∧ shM y m k ≤ 12 := by unfold shM; omega
def MonthsOk (k : Int) : Prop := -3600000 ≤ k ∧ k ≤ 3600000
instance (k : Int) : Decidable (MonthsOk k) := inferInstanceAs (Decidable (_ ∧ _))
theorem shift_eq {n y m d k : Int} (h : IsDate n y m d) (hc : CanDay n) (hk : MonthsOk k) (r : Nat) :
 kQ.f (r + 1) n k = some (if DateOk (shY y m k) (shM y m k) (shD y m d k) then (dnum (shY y m k) (shM y m k) (shD y m d k), 0) else (0, 10)) := by
 have hc' := hc
 unfold CanDay at hc'
 unfold MonthsOk at hk
 have hy := (can_of_year h).1 hc
 have h1 := h.m1
 have h2 := h.m12
 unfold kQ.f
 rw [can_eq]
 simp only [Option.bind_some, decide_eq_true_eq]
 rw [if_pos hc, if_neg (by omega), decide_eq_false (by omega)]
 simp only [kQ.j0]
 rw [if_neg (by simp), parts_eq h (by omega)]
 simp only [Option.bind_some]
 rw [w64 (x := 12 * y) (by omega) (by omega), w64 (x := 12 * y + m) (by omega) (by omega), w64 (x := 12 * y + m - 1) (by omega) (by omega), w64 (x := 12 * y + m - 1 + k) (by omega) (by omega), floor_eq _ _ (by unfold I64; omega) (by omega) (by omega)]
 simp only [Option.bind_some]
 rw [w64 (x := (12 * y + m - 1 + k) % 12 + 1) (by omega) (by omega), len_eq]
 simp only [Option.bind_some]
 rw [days_eq]
 simp only [Option.bind_some]
 have e : mn d (mlen ((12 * y + m - 1 + k) / 12) ((12 * y + m - 1 + k) % 12 + 1)) = shD y m d k := rfl
 rw [e]
 rfl
theorem shift_no {n k : Int} (h : ¬ CanDay n ∨ ¬ MonthsOk k) (r : Nat) : kQ.f (r + 1) n k = some (0, 10) := by
 unfold kQ.f
 rw [can_eq]
 simp only [Option.bind_some, decide_eq_true_eq]
 by_cases hc : CanDay n
 · have hk := h.resolve_left (fun f => f hc)
   unfold MonthsOk at hk
   rw [if_pos hc]
   by_cases h1 : k > 3600000
   · rw [if_pos h1]; simp only [kQ.j0]; rfl
   · rw [if_neg h1, decide_eq_true (by omega)]; simp only [kQ.j0]; rfl
 · rw [if_neg hc]; simp only [kQ.j0]; rfl
end Go.Proofs.YtimgphlfaninnaaGreat.Civ
namespace Go.Proofs.YtimgphlfaninnaaGreat.P
open Go.RowKit Go.Proofs.YtimgphlfaninnaaGreatW.PrintWords Go.Proofs.YtimgphlfaninnaaGreatW.PrintLast Go.Proofs.YtimgphlfaninnaaGreatW.PrintMore
open Go.Proofs.YtimgphlfaninnaaGreat.A
 attribute [local go_sem] bF bD bL bM kY kZ bC bE
set_option linter.unusedVariables false
set_option linter.unusedSimpArgs false
def bH.f (k : Nat) (a0_0 : Int) (a0_1 : Int) (a1 : Int) : Option (Int × Int × Int) := (kN.f k a0_0 a0_1 a1).bind fun bt186 => (some (bt186.1, bt186.2.1, bt186.2.2))
theorem bH.mono : ∀ a0 a1 a2 k, LeO (bH.f k a0 a1 a2) (bH.f (k + 1) a0 a1 a2) := by
 intro a0 a1 a2 k
 unfold bH.f
 repeat' first
  | (with_reducible exact kN.mono _ _ _ _)
  | (with_reducible exact LeO.refl _)
  | (with_reducible exact LeO.none _)
  | (with_reducible refine LeO.ite ?_ ?_)
  | (with_reducible refine LeO.bind ?_ (fun _ => ?_))
  | exact kN.mono _ _ _ _
  | exact LeO.none _
  | refine LeO.ite ?_ ?_
  | refine LeO.bind ?_ (fun _ => ?_)
set_option maxRecDepth 100000 in
theorem bH.vc (k : Nat) (a0_0 : Int) (a0_1 : Int) (a1 : Int) (K : AV → Prop) : afv PA Tryz.prog (tab [(122, kN.con k), (123, kQ.con k)]) noLoops 2 84 [.agg [.int .i64 a0_0, .int .i64 a0_1], .int .i64 a1] K = (brc (Option.isSome (kN.f k a0_0 a0_1 a1)) (∀ (m0 : Int), m0 = Prod.fst (gd (kN.f k a0_0 a0_1 a1)) → ∀ (m1 : Int), m1 = Prod.fst (Prod.snd (gd (kN.f k a0_0 a0_1 a1))) → ∀ (m2 : Int), m2 = Prod.snd (Prod.snd (gd (kN.f k a0_0 a0_1 a1))) → K (AV.tup [AV.agg [AV.int IntKind.i64 m0, AV.int IntKind.i64 m1], AV.int IntKind.i64 m2])) False) := by kernel_rfl
set_option maxHeartbeats 1000000 in
set_option maxRecDepth 100000 in
theorem bH.calls (k : Nat) (a0_0 : Int) (a0_1 : Int) (a1 : Int) (r1 : Int) (r2 : Int) (r3 : Int) (w : World) (h : bH.f k a0_0 a0_1 a1 = some (r1, r2, r3)) :
 Calls Tryz.prog 84 #[.agg #[.int .i64 a0_0, .int .i64 a0_1], .int .i64 a1] w fun e w' => e = .returned (.tuple #[.agg #[.int .i64 r1, .int .i64 r2], .int .i64 r3]) ∧ Below w.heap.size w w' := by
 refine jG (A := [.agg #[.int .i64 a0_0, .int .i64 a0_1], .int .i64 a1]) (v := .tup [.agg [.int .i64 r1, .int .i64 r2], .int .i64 r3]) (kB (kN.cok k) (kB (kQ.cok k) (bA))) ((bH.vc k a0_0 a0_1 a1 _).mpr ?_) (by simp [kF, kJ, kK, kO, kW, kV, jS]) (fun ρ V' hV => by simpa [kF, kJ, kK, kO, kW, kV, bI] using hV)
 unfold bH.f at h
 (try simp only [bne, Option.bind_eq_some_iff, bQ] at h)
 (try simp only [bne, jW, wrap_i64])
 first
  | grind (splits := 60) [kG]
  | ((repeat' (first | (have or_ : Or _ _ := h; clear or_; rcases h with h | h) | (have or_ : Exists _ := h; clear or_; obtain ⟨_, h⟩ := h) | (have or_ : And _ _ := h; clear or_; obtain ⟨hq_, h⟩ := h))) <;> (try simp only [Option.some.injEq, Prod.mk.injEq, reduceCtorEq] at h) <;> (try subst_vars) <;> first | (simp_all [kG] <;> (try omega) <;> done) | grind (splits := 60) [kG])
  | (intros; subst_vars; simp_all [kG]; done)
noncomputable def bH.con (k : Nat) : Con
 | [.agg [.int .i64 a0_0, .int .i64 a0_1], .int .i64 a1] => some ((bH.f k a0_0 a0_1 a1).isSome, .tup [.agg [.int .i64 (gd (bH.f k a0_0 a0_1 a1)).1, .int .i64 (gd (bH.f k a0_0 a0_1 a1)).2.1], .int .i64 (gd (bH.f k a0_0 a0_1 a1)).2.2])
 | _ => none
set_option maxRecDepth 100000 in
theorem bH.cok (k : Nat) : COk Tryz.prog 84 (bH.con k) := by
 intro args p v hc hp w A hA
 unfold bH.con at hc
 split at hc
 · rename_i a0_0 a0_1 a1
   simp only [Option.some.injEq, Prod.mk.injEq] at hc
   obtain ⟨rfl, rfl⟩ := hc
   rcases hf : bH.f k a0_0 a0_1 a1 with _ | ⟨r1, r2, r3⟩
   · rw [hf] at hp; cases hp
   obtain rfl : A = [.agg #[.int .i64 a0_0, .int .i64 a0_1], .int .i64 a1] := by simpa [kF, kJ, kK, kO, kW, kV, jS] using hA
   exact kH (fn := Tryz.f84) Tryz.func84 (by kernel_rfl) (by kernel_rfl) (bH.calls _ _ _ _ _ _ _ w hf) (fun _ => by simp [kG, kF, kJ, kK, kO, kW, kV, bI]) (fun _ h => h)
 · cases hc
theorem bH.up {k : Nat} {a0_0 : Int} {a0_1 : Int} {a1 : Int} {r : Int × Int × Int} (h : bH.f k a0_0 a0_1 a1 = some r) : bH.f (k + 1) a0_0 a0_1 a1 = some r := bH.mono a0_0 a0_1 a1 k _ h
theorem bH.le {a0_0 : Int} {a0_1 : Int} {a1 : Int} {r : Int × Int × Int} {k n : Nat} (h : bH.f k a0_0 a0_1 a1 = some r) (hk : k ≤ n) : bH.f n a0_0 a0_1 a1 = some r := by
 induction hk with
 | refl => exact h
 | step _ ih => exact bH.up ih
def jT.f (a0 : Int) (a1 : Int) : Option (Int × Int) := if ((decide ((wrap64 (a0 + a1)) > a0)) != (decide (a1 > 0))) = true then (some (0, 10)) else (some (wrap64 (a0 + a1), 0))
set_option maxHeartbeats 8000000 in
set_option maxRecDepth 100000 in
theorem jT.calls (a0 : Int) (a1 : Int) (r1 : Int) (r2 : Int) (w : World) (h : jT.f a0 a1 = some (r1, r2)) :
 Calls Tryz.prog 67 #[.int .i64 a0, .int .i64 a1] w fun e w' => e = .returned (.tuple #[.int .i64 r1, .int .i64 r2]) ∧ Drawn0 w w' := by
 have H : (if ((decide ((wrap64 (a0 + a1)) > a0)) != (decide (a1 > 0))) = true then (some (0, 10)) else (some (wrap64 (a0 + a1), 0))) = some (r1, r2) := h
 clear h
 by_cases c3 : ((decide ((wrap64 (a0 + a1)) > a0)) != (decide (a1 > 0))) = true
 · rw [if_pos c3] at H
   have c3b0 : ((decide ((wrap64 (a0 + a1)) > a0)) != (decide (a1 > 0))) = true := c3
   (try (have c3b1 : decide ((decide ((wrap64 (a0 + a1)) > a0)) = (decide (a1 > 0))) = false := by simpa using c3))
   (try (have c3b2 : ((decide ((wrap64 (a0 + a1)) > a0)) == (decide (a1 > 0))) = false := by simpa using c3))
   (try (have c3b3 : ¬ ((decide ((wrap64 (a0 + a1)) > a0)) = (decide (a1 > 0))) := by simpa using c3))
   clear c3
   simp only [Option.some.injEq, Prod.mk.injEq] at H
   obtain ⟨rfl, rfl⟩ := H
   go_enter Tryz.func67, Tryz.ntmps67
   go_wp2
   go_ret2
   exact ⟨by first | rfl | (simp; done) | (simp [*]; done), by repeat (first | exact Drawn0.refl _ | apply Drawn0.step)⟩
 · rw [if_neg c3] at H
   have c3b0 : ((decide ((wrap64 (a0 + a1)) > a0)) != (decide (a1 > 0))) = false := by simpa using c3
   (try (have c3b1 : decide ((decide ((wrap64 (a0 + a1)) > a0)) = (decide (a1 > 0))) = true := by simpa using c3))
   (try (have c3b2 : ((decide ((wrap64 (a0 + a1)) > a0)) == (decide (a1 > 0))) = true := by simpa using c3))
   clear c3
   simp only [Option.some.injEq, Prod.mk.injEq] at H
   obtain ⟨rfl, rfl⟩ := H
   go_enter Tryz.func67, Tryz.ntmps67
   go_wp2
   go_ret2
   exact ⟨by first | rfl | (simp; done) | (simp [*]; done), by repeat (first | exact Drawn0.refl _ | apply Drawn0.step)⟩
noncomputable def jT.con : Con
 | [.int .i64 a0, .int .i64 a1] => some ((jT.f a0 a1).isSome, .tup [.int .i64 (gd (jT.f a0 a1)).1, .int .i64 (gd (jT.f a0 a1)).2])
 | _ => none
set_option maxRecDepth 100000 in
theorem jT.cok : COk Tryz.prog 67 (jT.con) := by
 intro args p v hc hp w A hA
 unfold jT.con at hc
 split at hc
 · rename_i a0 a1
   simp only [Option.some.injEq, Prod.mk.injEq] at hc
   obtain ⟨rfl, rfl⟩ := hc
   rcases hf : jT.f a0 a1 with _ | ⟨r1, r2⟩
   · rw [hf] at hp; cases hp
   obtain rfl : A = [.int .i64 a0, .int .i64 a1] := by simpa [kF, kJ, kK, kO, kW, kV, jS] using hA
   exact kH (fn := Tryz.f67) Tryz.func67 (by kernel_rfl) (by kernel_rfl) (jT.calls _ _ _ _ w hf) (fun _ => by simp [kG, kF, kJ, kK, kO, kW, kV, bI]) (fun _ h => h.below)
 · cases hc
def bB.f (a0_0 : Int) (a0_1 : Int)  (a2 : Int) : Option (Int × Int × Int) := (bX.f a0_0 a0_1).bind fun t191 => (if t191 = true then (if a0_0 = 0 then ((jT.f a0_1 a2).bind fun bt192 => ((bR.f bt192.1 bt192.2).bind fun bt194 => (some (bt194.1, bt194.2.1, bt194.2.2)))) else (some (a0_0, a0_1, 0))) else (some (0, 0, 1)))
set_option maxRecDepth 100000 in
theorem bB.vc (a0_0 : Int) (a0_1 : Int) (a2 : Int) (K : AV → Prop) : afv PA Tryz.prog (tab [(124, bX.con), (156, bR.con), (67, jT.con)]) noLoops 2 122 [.agg [.int .i64 a0_0, .int .i64 a0_1], .fn (.func 67) [] [], .int .i64 a2] K = (brc (Option.isSome (bX.f a0_0 a0_1)) (∀ (m0 : Bool), m0 = gd (bX.f a0_0 a0_1) → brc (!m0) (K (AV.tup [AV.agg [AV.int IntKind.i64 0, AV.int IntKind.i64 0], AV.int IntKind.i64 1])) (brc (a0_0 != 0) (K (AV.tup [AV.agg [AV.int IntKind.i64 a0_0, AV.int IntKind.i64 a0_1], AV.int IntKind.i64 0])) (brc (Option.isSome (jT.f a0_1 a2)) (∀ (m1 : Int), m1 = Prod.fst (gd (jT.f a0_1 a2)) → ∀ (m2 : Int), m2 = Prod.snd (gd (jT.f a0_1 a2)) → brc (Option.isSome (bR.f m1 m2)) (∀ (m3 : Int), m3 = Prod.fst (gd (bR.f m1 m2)) → ∀ (m4 : Int), m4 = Prod.fst (Prod.snd (gd (bR.f m1 m2))) → ∀ (m5 : Int), m5 = Prod.snd (Prod.snd (gd (bR.f m1 m2))) → K (AV.tup [AV.agg [AV.int IntKind.i64 m3, AV.int IntKind.i64 m4], AV.int IntKind.i64 m5])) False) False))) False) := by kernel_rfl
set_option maxHeartbeats 1000000 in
set_option maxRecDepth 100000 in
theorem bB.calls (a0_0 : Int) (a0_1 : Int)  (a2 : Int) (r1 : Int) (r2 : Int) (r3 : Int) (w : World) (h : bB.f a0_0 a0_1 a2 = some (r1, r2, r3)) :
 Calls Tryz.prog 122 #[.agg #[.int .i64 a0_0, .int .i64 a0_1], .func (.func 67) #[] #[], .int .i64 a2] w fun e w' => e = .returned (.tuple #[.agg #[.int .i64 r1, .int .i64 r2], .int .i64 r3]) ∧ Below w.heap.size w w' := by
 refine jG (A := [.agg #[.int .i64 a0_0, .int .i64 a0_1], .func (.func 67) #[] #[], .int .i64 a2]) (v := .tup [.agg [.int .i64 r1, .int .i64 r2], .int .i64 r3]) (kB (bX.cok) (kB (bR.cok) (kB (jT.cok) (bA)))) ((bB.vc a0_0 a0_1 a2 _).mpr ?_) (by simp [kF, kJ, kK, kO, kW, kV, jS]) (fun ρ V' hV => by simpa [kF, kJ, kK, kO, kW, kV, bI] using hV)
 unfold bB.f at h
 (try simp only [bne, Option.bind_eq_some_iff, bQ] at h)
 (try simp only [bne, jW, wrap_i64])
 first
  | grind (splits := 60) [kG]
  | ((repeat' (first | (have or_ : Or _ _ := h; clear or_; rcases h with h | h) | (have or_ : Exists _ := h; clear or_; obtain ⟨_, h⟩ := h) | (have or_ : And _ _ := h; clear or_; obtain ⟨hq_, h⟩ := h))) <;> (try simp only [Option.some.injEq, Prod.mk.injEq, reduceCtorEq] at h) <;> (try subst_vars) <;> first | (simp_all [kG] <;> (try omega) <;> done) | grind (splits := 60) [kG])
  | (intros; subst_vars; simp_all [kG]; done)
noncomputable def bB.con : Con
 | [.agg [.int .i64 a0_0, .int .i64 a0_1], .fn (.func 67) [] [], .int .i64 a2] => some ((bB.f a0_0 a0_1 a2).isSome, .tup [.agg [.int .i64 (gd (bB.f a0_0 a0_1 a2)).1, .int .i64 (gd (bB.f a0_0 a0_1 a2)).2.1], .int .i64 (gd (bB.f a0_0 a0_1 a2)).2.2])
 | _ => none
set_option maxRecDepth 100000 in
theorem bB.cok : COk Tryz.prog 122 (bB.con) := by
 intro args p v hc hp w A hA
 unfold bB.con at hc
 split at hc
 · rename_i a0_0 a0_1 a2
   simp only [Option.some.injEq, Prod.mk.injEq] at hc
   obtain ⟨rfl, rfl⟩ := hc
   rcases hf : bB.f a0_0 a0_1 a2 with _ | ⟨r1, r2, r3⟩
   · rw [hf] at hp; cases hp
   obtain rfl : A = [.agg #[.int .i64 a0_0, .int .i64 a0_1], .func (.func 67) #[] #[], .int .i64 a2] := by simpa [kF, kJ, kK, kO, kW, kV, jS] using hA
   exact kH (fn := Tryz.f122) Tryz.func122 (by kernel_rfl) (by kernel_rfl) (bB.calls _ _ _ _ _ _ w hf) (fun _ => by simp [kG, kF, kJ, kK, kO, kW, kV, bI]) (fun _ h => h)
 · cases hc
def jO.f (a0_0 : Int) (a0_1 : Int) (a1 : Int) : Option (Int × Int × Int) := (bB.f a0_0 a0_1 a1).bind fun bt199 => (some (bt199.1, bt199.2.1, bt199.2.2))
set_option maxRecDepth 100000 in
theorem jO.vc (a0_0 : Int) (a0_1 : Int) (a1 : Int) (K : AV → Prop) : afv PA Tryz.prog (tab [(67, jT.con), (122, bB.con)]) noLoops 2 85 [.agg [.int .i64 a0_0, .int .i64 a0_1], .int .i64 a1] K = (brc (Option.isSome (bB.f a0_0 a0_1 a1)) (∀ (m0 : Int), m0 = Prod.fst (gd (bB.f a0_0 a0_1 a1)) → ∀ (m1 : Int), m1 = Prod.fst (Prod.snd (gd (bB.f a0_0 a0_1 a1))) → ∀ (m2 : Int), m2 = Prod.snd (Prod.snd (gd (bB.f a0_0 a0_1 a1))) → K (AV.tup [AV.agg [AV.int IntKind.i64 m0, AV.int IntKind.i64 m1], AV.int IntKind.i64 m2])) False) := by kernel_rfl
set_option maxHeartbeats 1000000 in
set_option maxRecDepth 100000 in
theorem jO.calls (a0_0 : Int) (a0_1 : Int) (a1 : Int) (r1 : Int) (r2 : Int) (r3 : Int) (w : World) (h : jO.f a0_0 a0_1 a1 = some (r1, r2, r3)) :
 Calls Tryz.prog 85 #[.agg #[.int .i64 a0_0, .int .i64 a0_1], .int .i64 a1] w fun e w' => e = .returned (.tuple #[.agg #[.int .i64 r1, .int .i64 r2], .int .i64 r3]) ∧ Below w.heap.size w w' := by
 refine jG (A := [.agg #[.int .i64 a0_0, .int .i64 a0_1], .int .i64 a1]) (v := .tup [.agg [.int .i64 r1, .int .i64 r2], .int .i64 r3]) (kB (jT.cok) (kB (bB.cok) (bA))) ((jO.vc a0_0 a0_1 a1 _).mpr ?_) (by simp [kF, kJ, kK, kO, kW, kV, jS]) (fun ρ V' hV => by simpa [kF, kJ, kK, kO, kW, kV, bI] using hV)
 unfold jO.f at h
 (try simp only [bne, Option.bind_eq_some_iff, bQ] at h)
 (try simp only [bne, jW, wrap_i64])
 first
  | grind (splits := 60) [kG]
  | ((repeat' (first | (have or_ : Or _ _ := h; clear or_; rcases h with h | h) | (have or_ : Exists _ := h; clear or_; obtain ⟨_, h⟩ := h) | (have or_ : And _ _ := h; clear or_; obtain ⟨hq_, h⟩ := h))) <;> (try simp only [Option.some.injEq, Prod.mk.injEq, reduceCtorEq] at h) <;> (try subst_vars) <;> first | (simp_all [kG] <;> (try omega) <;> done) | grind (splits := 60) [kG])
  | (intros; subst_vars; simp_all [kG]; done)
noncomputable def jO.con : Con
 | [.agg [.int .i64 a0_0, .int .i64 a0_1], .int .i64 a1] => some ((jO.f a0_0 a0_1 a1).isSome, .tup [.agg [.int .i64 (gd (jO.f a0_0 a0_1 a1)).1, .int .i64 (gd (jO.f a0_0 a0_1 a1)).2.1], .int .i64 (gd (jO.f a0_0 a0_1 a1)).2.2])
 | _ => none
set_option maxRecDepth 100000 in
theorem jO.cok : COk Tryz.prog 85 (jO.con) := by
 intro args p v hc hp w A hA
 unfold jO.con at hc
 split at hc
 · rename_i a0_0 a0_1 a1
   simp only [Option.some.injEq, Prod.mk.injEq] at hc
   obtain ⟨rfl, rfl⟩ := hc
   rcases hf : jO.f a0_0 a0_1 a1 with _ | ⟨r1, r2, r3⟩
   · rw [hf] at hp; cases hp
   obtain rfl : A = [.agg #[.int .i64 a0_0, .int .i64 a0_1], .int .i64 a1] := by simpa [kF, kJ, kK, kO, kW, kV, jS] using hA
   exact kH (fn := Tryz.f85) Tryz.func85 (by kernel_rfl) (by kernel_rfl) (jO.calls _ _ _ _ _ _ w hf) (fun _ => by simp [kG, kF, kJ, kK, kO, kW, kV, bI]) (fun _ h => h)
 · cases hc
def bW.f (k : Nat) (a0 : Int) (a1 : Int) : Option (Int × Int) := (bP.f a0 a1).bind fun bt202 => ((kP.f k ((decide (a0 < 0)) != (decide (a1 < 0))) bt202.1 bt202.2).bind fun bt204 => (some (bt204.1, bt204.2)))
theorem bW.mono : ∀ a0 a1 k, LeO (bW.f k a0 a1) (bW.f (k + 1) a0 a1) := by
 intro a0 a1 k
 unfold bW.f
 repeat' first
  | (with_reducible exact kP.mono _ _ _ _)
  | (with_reducible exact LeO.refl _)
  | (with_reducible exact LeO.none _)
  | (with_reducible refine LeO.ite ?_ ?_)
  | (with_reducible refine LeO.bind ?_ (fun _ => ?_))
  | exact kP.mono _ _ _ _
  | exact LeO.none _
  | refine LeO.ite ?_ ?_
  | refine LeO.bind ?_ (fun _ => ?_)
set_option maxRecDepth 100000 in
theorem bW.vc (k : Nat) (a0 : Int) (a1 : Int) (K : AV → Prop) : afv PA Tryz.prog (tab [(116, kP.con k), (117, bP.con)]) noLoops 2 78 [.int .i64 a0, .int .i64 a1] K = (brc (Option.isSome (bP.f a0 a1)) (∀ (m0 : Int), m0 = Prod.fst (gd (bP.f a0 a1)) → ∀ (m1 : Int), m1 = Prod.snd (gd (bP.f a0 a1)) → brc (Option.isSome (kP.f k (!decide (a0 < 0) == decide (a1 < 0)) m0 m1)) (∀ (m2 : Int), m2 = Prod.fst (gd (kP.f k (!decide (a0 < 0) == decide (a1 < 0)) m0 m1)) → ∀ (m3 : Int), m3 = Prod.snd (gd (kP.f k (!decide (a0 < 0) == decide (a1 < 0)) m0 m1)) → K (AV.tup [AV.int IntKind.i64 m2, AV.int IntKind.i64 m3])) False) False) := by kernel_rfl
set_option maxHeartbeats 1000000 in
set_option maxRecDepth 100000 in
theorem bW.calls (k : Nat) (a0 : Int) (a1 : Int) (r1 : Int) (r2 : Int) (w : World) (h : bW.f k a0 a1 = some (r1, r2)) :
 Calls Tryz.prog 78 #[.int .i64 a0, .int .i64 a1] w fun e w' => e = .returned (.tuple #[.int .i64 r1, .int .i64 r2]) ∧ Below w.heap.size w w' := by
 refine jG (A := [.int .i64 a0, .int .i64 a1]) (v := .tup [.int .i64 r1, .int .i64 r2]) (kB (kP.cok k) (kB (bP.cok) (bA))) ((bW.vc k a0 a1 _).mpr ?_) (by simp [kF, kJ, kK, kO, kW, kV, jS]) (fun ρ V' hV => by simpa [kF, kJ, kK, kO, kW, kV, bI] using hV)
 unfold bW.f at h
 (try simp only [bne, Option.bind_eq_some_iff, bQ] at h)
 (try simp only [bne, jW, wrap_i64])
 first
  | grind (splits := 60) [kG]
  | ((repeat' (first | (have or_ : Or _ _ := h; clear or_; rcases h with h | h) | (have or_ : Exists _ := h; clear or_; obtain ⟨_, h⟩ := h) | (have or_ : And _ _ := h; clear or_; obtain ⟨hq_, h⟩ := h))) <;> (try simp only [Option.some.injEq, Prod.mk.injEq, reduceCtorEq] at h) <;> (try subst_vars) <;> first | (simp_all [kG] <;> (try omega) <;> rcases hb0 : decide (a0 < 0) with _ | _ <;> rcases hb1 : decide (a1 < 0) with _ | _ <;> simp_all [kG] <;> done) | grind (splits := 60) [kG])
  | (intros; subst_vars; simp_all [kG]; done)
noncomputable def bW.con (k : Nat) : Con
 | [.int .i64 a0, .int .i64 a1] => some ((bW.f k a0 a1).isSome, .tup [.int .i64 (gd (bW.f k a0 a1)).1, .int .i64 (gd (bW.f k a0 a1)).2])
 | _ => none
set_option maxRecDepth 100000 in
theorem bW.cok (k : Nat) : COk Tryz.prog 78 (bW.con k) := by
 intro args p v hc hp w A hA
 unfold bW.con at hc
 split at hc
 · rename_i a0 a1
   simp only [Option.some.injEq, Prod.mk.injEq] at hc
   obtain ⟨rfl, rfl⟩ := hc
   rcases hf : bW.f k a0 a1 with _ | ⟨r1, r2⟩
   · rw [hf] at hp; cases hp
   obtain rfl : A = [.int .i64 a0, .int .i64 a1] := by simpa [kF, kJ, kK, kO, kW, kV, jS] using hA
   exact kH (fn := Tryz.f78) Tryz.func78 (by kernel_rfl) (by kernel_rfl) (bW.calls _ _ _ _ _ w hf) (fun _ => by simp [kG, kF, kJ, kK, kO, kW, kV, bI]) (fun _ h => h)
 · cases hc
theorem bW.up {k : Nat} {a0 : Int} {a1 : Int} {r : Int × Int} (h : bW.f k a0 a1 = some r) : bW.f (k + 1) a0 a1 = some r := bW.mono a0 a1 k _ h
theorem bW.le {a0 : Int} {a1 : Int} {r : Int × Int} {k n : Nat} (h : bW.f k a0 a1 = some r) (hk : k ≤ n) : bW.f n a0 a1 = some r := by
 induction hk with
 | refl => exact h
 | step _ ih => exact bW.up ih
def num_Sub.f (a0 : Int) (a1 : Int) : Option (Int × Int) := if ((decide ((wrap64 (a0 - a1)) < a0)) != (decide (a1 > 0))) = true then (some (0, 10)) else (some (wrap64 (a0 - a1), 0))
set_option maxHeartbeats 8000000 in
set_option maxRecDepth 100000 in
theorem num_Sub.calls (a0 : Int) (a1 : Int) (r1 : Int) (r2 : Int) (w : World) (h : num_Sub.f a0 a1 = some (r1, r2)) :
 Calls Tryz.prog 53 #[.int .i64 a0, .int .i64 a1] w fun e w' => e = .returned (.tuple #[.int .i64 r1, .int .i64 r2]) ∧ Drawn0 w w' := by
 have H : (if ((decide ((wrap64 (a0 - a1)) < a0)) != (decide (a1 > 0))) = true then (some (0, 10)) else (some (wrap64 (a0 - a1), 0))) = some (r1, r2) := h
 clear h
 by_cases c3 : ((decide ((wrap64 (a0 - a1)) < a0)) != (decide (a1 > 0))) = true
 · rw [if_pos c3] at H
   have c3b0 : ((decide ((wrap64 (a0 - a1)) < a0)) != (decide (a1 > 0))) = true := c3
   (try (have c3b1 : decide ((decide ((wrap64 (a0 - a1)) < a0)) = (decide (a1 > 0))) = false := by simpa using c3))
   (try (have c3b2 : ((decide ((wrap64 (a0 - a1)) < a0)) == (decide (a1 > 0))) = false := by simpa using c3))
   (try (have c3b3 : ¬ ((decide ((wrap64 (a0 - a1)) < a0)) = (decide (a1 > 0))) := by simpa using c3))
   clear c3
   simp only [Option.some.injEq, Prod.mk.injEq] at H
   obtain ⟨rfl, rfl⟩ := H
   go_enter Tryz.func53, Tryz.ntmps53
   go_wp2
   go_ret2
   exact ⟨by first | rfl | (simp; done) | (simp [*]; done), by repeat (first | exact Drawn0.refl _ | apply Drawn0.step)⟩
 · rw [if_neg c3] at H
   have c3b0 : ((decide ((wrap64 (a0 - a1)) < a0)) != (decide (a1 > 0))) = false := by simpa using c3
   (try (have c3b1 : decide ((decide ((wrap64 (a0 - a1)) < a0)) = (decide (a1 > 0))) = true := by simpa using c3))
   (try (have c3b2 : ((decide ((wrap64 (a0 - a1)) < a0)) == (decide (a1 > 0))) = true := by simpa using c3))
   clear c3
   simp only [Option.some.injEq, Prod.mk.injEq] at H
   obtain ⟨rfl, rfl⟩ := H
   go_enter Tryz.func53, Tryz.ntmps53
   go_wp2
   go_ret2
   exact ⟨by first | rfl | (simp; done) | (simp [*]; done), by repeat (first | exact Drawn0.refl _ | apply Drawn0.step)⟩
def num_Neg.f (a0 : Int) : Option (Int × Int) := (num_Sub.f 0 a0).bind fun bt278 => (some (bt278.1, bt278.2))
set_option maxHeartbeats 8000000 in
set_option maxRecDepth 100000 in
theorem num_Neg.calls (a0 : Int) (r1 : Int) (r2 : Int) (w : World) (h : num_Neg.f a0 = some (r1, r2)) :
 Calls Tryz.prog 65 #[.int .i64 a0] w fun e w' => e = .returned (.tuple #[.int .i64 r1, .int .i64 r2]) ∧ Drawn0 w w' := by
 have H : ((num_Sub.f 0 a0).bind fun bt278 => (some (bt278.1, bt278.2))) = some (r1, r2) := h
 clear h
 replace H := Option.bind_eq_some_iff.mp H
 obtain ⟨⟨t278, t279⟩, A20, H⟩ := H
 replace H : (some (t278, t279)) = some (r1, r2) := H
 have A2 := Aside0.mk A20
 clear A20
 simp only [Option.some.injEq, Prod.mk.injEq] at H
 obtain ⟨rfl, rfl⟩ := H
 go_enter Tryz.func65, Tryz.ntmps65
 go_wp2_with (first | ((with_reducible refine kU (f := 53) rfl ?_); refine jD (some 5) rfl rfl Tryz.func53 (by kernel_rfl) rfl #[.int .i64 0, .int .i64 a0] rfl (by (try simp only [List.map_toArray, List.map_cons, List.map_nil]); first | done | rfl | (simp only [List.length_drop, List.length_take]; rfl)) ?_; (with_reducible refine (num_Sub.calls 0 a0 t278 t279 _ A2.out).mono ?_); rintro e w' ⟨rfl, ⟨nd, rfl⟩⟩; refine ⟨_, rfl, ?_⟩))
 go_ret2
 exact ⟨by first | rfl | (simp; done) | (simp [*]; done), by repeat (first | exact Drawn0.refl _ | apply Drawn0.step)⟩
noncomputable def num_Neg.con : Con
 | [.int .i64 a0] => some ((num_Neg.f a0).isSome, .tup [.int .i64 (gd (num_Neg.f a0)).1, .int .i64 (gd (num_Neg.f a0)).2])
 | _ => none
set_option maxRecDepth 100000 in
theorem num_Neg.cok : COk Tryz.prog 65 (num_Neg.con) := by
 intro args p v hc hp w A hA
 unfold num_Neg.con at hc
 split at hc
 · rename_i a0
   simp only [Option.some.injEq, Prod.mk.injEq] at hc
   obtain ⟨rfl, rfl⟩ := hc
   rcases hf : num_Neg.f a0 with _ | ⟨r1, r2⟩
   · rw [hf] at hp; cases hp
   obtain rfl : A = [.int .i64 a0] := by simpa [kF, kJ, kK, kO, kW, kV, jS] using hA
   exact kH (fn := Tryz.f65) Tryz.func65 (by kernel_rfl) (by kernel_rfl) (num_Neg.calls _ _ _ w hf) (fun _ => by simp [kG, kF, kJ, kK, kO, kW, kV, bI]) (fun _ h => h.below)
 · cases hc
def kL.f (a0 : Int) (a1 : Int) : Option (Int) := if a1 = 0 then (none) else (if (Int.tmod a0 a1) < 0 then (some (wrap64 ((Int.tmod a0 a1) + a1))) else (some (Int.tmod a0 a1)))
set_option maxHeartbeats 8000000 in
set_option maxRecDepth 100000 in
theorem kL.calls (a0 : Int) (a1 : Int) (r : Int) (w : World) (h : kL.f a0 a1 = some r) :
 Calls Tryz.prog 141 #[.int .i64 a0, .int .i64 a1] w fun e w' => e = .returned (.int .i64 r) ∧ Drawn0 w w' := by
 have H : (if a1 = 0 then (none) else (if (Int.tmod a0 a1) < 0 then (some (wrap64 ((Int.tmod a0 a1) + a1))) else (some (Int.tmod a0 a1)))) = some r := h
 clear h
 by_cases c3 : a1 = 0
 · rw [if_pos c3] at H
   exact absurd H (by simp)
 · rw [if_neg c3] at H
   have c3b0 : (a1 == 0) = false := beq_eq_false_iff_ne.mpr c3
   have c3b1 : (a1 != 0) = true := bne_iff_ne.mpr c3
   by_cases c4 : (Int.tmod a0 a1) < 0
   · rw [if_pos c4] at H
     have c4b0 : decide ((Int.tmod a0 a1) < 0) = true := decide_eq_true c4
     clear c4
     obtain rfl := Option.some.inj H
     go_enter Tryz.func141, Tryz.ntmps141
     go_wp2
     go_ret
     exact ⟨by first | rfl | (simp; done) | (simp [*]; done), by repeat (first | exact Drawn0.refl _ | apply Drawn0.step)⟩
   · rw [if_neg c4] at H
     have c4b0 : decide ((Int.tmod a0 a1) < 0) = false := decide_eq_false c4
     clear c4
     obtain rfl := Option.some.inj H
     go_enter Tryz.func141, Tryz.ntmps141
     go_wp2
     go_ret
     exact ⟨by first | rfl | (simp; done) | (simp [*]; done), by repeat (first | exact Drawn0.refl _ | apply Drawn0.step)⟩
def bJ.f (a0 : Int) : Option (Bool) := (kL.f a0 4).bind fun t324 => (if t324 = 0 then ((kL.f a0 100).bind fun t325 => (if t325 = 0 then ((kL.f a0 400).bind fun t326 => (some (t326 == 0))) else (some true))) else (some false))
set_option maxHeartbeats 8000000 in
set_option maxRecDepth 100000 in
theorem bJ.calls (a0 : Int) (r : Bool) (w : World) (h : bJ.f a0 = some r) :
 Calls Tryz.prog 142 #[.int .i64 a0] w fun e w' => e = .returned (.bool r) ∧ Drawn0 w w' := by
 have H : ((kL.f a0 4).bind fun t324 => (if t324 = 0 then ((kL.f a0 100).bind fun t325 => (if t325 = 0 then ((kL.f a0 400).bind fun t326 => (some (t326 == 0))) else (some true))) else (some false))) = some r := h
 clear h
 replace H := Option.bind_eq_some_iff.mp H
 obtain ⟨t324, A20, H⟩ := H
 replace H : (if t324 = 0 then ((kL.f a0 100).bind fun t325 => (if t325 = 0 then ((kL.f a0 400).bind fun t326 => (some (t326 == 0))) else (some true))) else (some false)) = some r := H
 have A2 := Aside0.mk A20
 clear A20
 by_cases c3 : t324 = 0
 · rw [if_pos c3] at H
   have c3b0 : (t324 == 0) = true := beq_iff_eq.mpr c3
   have c3b1 : (t324 != 0) = false := bne_eq_false_iff_eq.mpr c3
   clear c3
   replace H := Option.bind_eq_some_iff.mp H
   obtain ⟨t325, A40, H⟩ := H
   replace H : (if t325 = 0 then ((kL.f a0 400).bind fun t326 => (some (t326 == 0))) else (some true)) = some r := H
   have A4 := Aside0.mk A40
   clear A40
   by_cases c5 : t325 = 0
   · rw [if_pos c5] at H
     have c5b0 : (t325 == 0) = true := beq_iff_eq.mpr c5
     have c5b1 : (t325 != 0) = false := bne_eq_false_iff_eq.mpr c5
     clear c5
     replace H := Option.bind_eq_some_iff.mp H
     obtain ⟨t326, A60, H⟩ := H
     replace H : (some (t326 == 0)) = some r := H
     have A6 := Aside0.mk A60
     clear A60
     obtain rfl := Option.some.inj H
     go_enter Tryz.func142, Tryz.ntmps142
     go_wp2_with (first | ((with_reducible refine kU (f := 141) rfl ?_); refine jD (some 4) rfl rfl Tryz.func141 (by kernel_rfl) rfl #[.int .i64 a0, .int .i64 4] rfl (by (try simp only [List.map_toArray, List.map_cons, List.map_nil]); first | done | rfl | (simp only [List.length_drop, List.length_take]; rfl)) ?_; (with_reducible refine (kL.calls a0 4 t324 _ A2.out).mono ?_); rintro e w' ⟨rfl, ⟨nd, rfl⟩⟩; refine ⟨_, rfl, ?_⟩) | (go_at_call 141; (with_reducible refine (kL.calls a0 100 t325 _ A4.out).mono ?_); rintro e w' ⟨rfl, ⟨nd, rfl⟩⟩) | (go_at_call 141; (with_reducible refine (kL.calls a0 400 t326 _ A6.out).mono ?_); rintro e w' ⟨rfl, ⟨nd, rfl⟩⟩))
     go_ret
     exact ⟨by first | rfl | (simp; done) | (simp [*]; done), by repeat (first | exact Drawn0.refl _ | apply Drawn0.step)⟩
   · rw [if_neg c5] at H
     have c5b0 : (t325 == 0) = false := beq_eq_false_iff_ne.mpr c5
     have c5b1 : (t325 != 0) = true := bne_iff_ne.mpr c5
     obtain rfl := Option.some.inj H
     go_enter Tryz.func142, Tryz.ntmps142
     go_wp2_with (first | ((with_reducible refine kU (f := 141) rfl ?_); refine jD (some 4) rfl rfl Tryz.func141 (by kernel_rfl) rfl #[.int .i64 a0, .int .i64 4] rfl (by (try simp only [List.map_toArray, List.map_cons, List.map_nil]); first | done | rfl | (simp only [List.length_drop, List.length_take]; rfl)) ?_; (with_reducible refine (kL.calls a0 4 t324 _ A2.out).mono ?_); rintro e w' ⟨rfl, ⟨nd, rfl⟩⟩; refine ⟨_, rfl, ?_⟩) | (go_at_call 141; (with_reducible refine (kL.calls a0 100 t325 _ A4.out).mono ?_); rintro e w' ⟨rfl, ⟨nd, rfl⟩⟩))
     go_ret
     exact ⟨by first | rfl | (simp; done) | (simp [*]; done), by repeat (first | exact Drawn0.refl _ | apply Drawn0.step)⟩
 · rw [if_neg c3] at H
   have c3b0 : (t324 == 0) = false := beq_eq_false_iff_ne.mpr c3
   have c3b1 : (t324 != 0) = true := bne_iff_ne.mpr c3
   obtain rfl := Option.some.inj H
   go_enter Tryz.func142, Tryz.ntmps142
   go_wp2_with (first | ((with_reducible refine kU (f := 141) rfl ?_); refine jD (some 4) rfl rfl Tryz.func141 (by kernel_rfl) rfl #[.int .i64 a0, .int .i64 4] rfl (by (try simp only [List.map_toArray, List.map_cons, List.map_nil]); first | done | rfl | (simp only [List.length_drop, List.length_take]; rfl)) ?_; (with_reducible refine (kL.calls a0 4 t324 _ A2.out).mono ?_); rintro e w' ⟨rfl, ⟨nd, rfl⟩⟩; refine ⟨_, rfl, ?_⟩))
   go_ret
   exact ⟨by first | rfl | (simp; done) | (simp [*]; done), by repeat (first | exact Drawn0.refl _ | apply Drawn0.step)⟩
mutual
def kC.j0 : Nat → Int → Int → Bool → Option (Int)
 | 0, _, _, _ => none
 | k + 1, x0, x5, x6 => if x6 = true then (some 31) else (if x5 = 4 then (kC.j1 k x0 x5 (x5 == 4)) else (if x5 = 6 then (kC.j1 k x0 x5 (x5 == 6)) else (if x5 = 9 then (kC.j1 k x0 x5 (x5 == 9)) else (kC.j1 k x0 x5 (x5 == 11)))))
def kC.j1 : Nat → Int → Int → Bool → Option (Int)
 | 0, _, _, _ => none
 | k + 1, x0, x5, x14 => if x14 = true then (some 30) else (if x5 = 2 then ((bJ.f x0).bind fun t327 => (if t327 = true then (some 29) else (some 28))) else (some 0))
end
def kC.f (k : Nat) (a0 : Int) (a1 : Int) : Option (Int) := if a1 = 1 then (kC.j0 k a0 a1 (a1 == 1)) else (if a1 = 3 then (kC.j0 k a0 a1 (a1 == 3)) else (if a1 = 5 then (kC.j0 k a0 a1 (a1 == 5)) else (if a1 = 7 then (kC.j0 k a0 a1 (a1 == 7)) else (if a1 = 8 then (kC.j0 k a0 a1 (a1 == 8)) else (if a1 = 10 then (kC.j0 k a0 a1 (a1 == 10)) else (kC.j0 k a0 a1 (a1 == 12)))))))
set_option maxHeartbeats 8000000 in
set_option maxRecDepth 100000 in
theorem kC.calls (k : Nat) (a0 : Int) (a1 : Int) (r : Int) (w : World) (h : kC.f k a0 a1 = some r) :
 Calls Tryz.prog 143 #[.int .i64 a0, .int .i64 a1] w fun e w' => e = .returned (.int .i64 r) ∧ Drawn0 w w' := by
 have H : (if a1 = 1 then (kC.j0 k a0 a1 (a1 == 1)) else (if a1 = 3 then (kC.j0 k a0 a1 (a1 == 3)) else (if a1 = 5 then (kC.j0 k a0 a1 (a1 == 5)) else (if a1 = 7 then (kC.j0 k a0 a1 (a1 == 7)) else (if a1 = 8 then (kC.j0 k a0 a1 (a1 == 8)) else (if a1 = 10 then (kC.j0 k a0 a1 (a1 == 10)) else (kC.j0 k a0 a1 (a1 == 12)))))))) = some r := h
 clear h
 have HC3 := Aside0.mk H
 clear H
 go_enter Tryz.func143, Tryz.ntmps143
 go_upto_if 6 with (fail)
 go_cut [6] (fun v6 wc => ∃ (kq : Nat) (x6_2 : Bool), v6 = .bool x6_2 ∧ Aside0 (kC.j0 kq a0 a1 x6_2 = some r) ∧ Aside0 (kq ≤ k) ∧ Drawn0 w wc)
 case first =>
  have H := HC3.out
  clear HC3
  by_cases c4 : a1 = 1
  · rw [if_pos c4] at H
    have c4b0 : (a1 == 1) = true := beq_iff_eq.mpr c4
    have c4b1 : (a1 != 1) = false := bne_eq_false_iff_eq.mpr c4
    clear c4
    (first | rw [c4b0] | (simp only [i64_w, i32_w]; rw [c4b0]) | skip)
    have H' := Aside0.mk H
    clear H
    go_wp2
    go_meet
    case rel => exact ⟨_, ((a1 == 1)), (by first | rfl | (simp; done) | (simp [*]; done)), H', ⟨by first | omega | exact Nat.le_refl _⟩, by repeat (first | exact Drawn0.refl _ | apply Drawn0.step)⟩
  · rw [if_neg c4] at H
    have c4b0 : (a1 == 1) = false := beq_eq_false_iff_ne.mpr c4
    have c4b1 : (a1 != 1) = true := bne_iff_ne.mpr c4
    (first | rw [c4b0] | (simp only [i64_w, i32_w]; rw [c4b0]) | skip)
    by_cases c5 : a1 = 3
    · rw [if_pos c5] at H
      have c5b0 : (a1 == 3) = true := beq_iff_eq.mpr c5
      have c5b1 : (a1 != 3) = false := bne_eq_false_iff_eq.mpr c5
      clear c5
      have H' := Aside0.mk H
      clear H
      go_wp2
      go_meet
      case rel => exact ⟨_, ((a1 == 3)), (by first | rfl | (simp; done) | (simp [*]; done)), H', ⟨by first | omega | exact Nat.le_refl _⟩, by repeat (first | exact Drawn0.refl _ | apply Drawn0.step)⟩
    · rw [if_neg c5] at H
      have c5b0 : (a1 == 3) = false := beq_eq_false_iff_ne.mpr c5
      have c5b1 : (a1 != 3) = true := bne_iff_ne.mpr c5
      by_cases c6 : a1 = 5
      · rw [if_pos c6] at H
        have c6b0 : (a1 == 5) = true := beq_iff_eq.mpr c6
        have c6b1 : (a1 != 5) = false := bne_eq_false_iff_eq.mpr c6
        clear c6
        have H' := Aside0.mk H
        clear H
        go_wp2
        go_meet
        case rel => exact ⟨_, ((a1 == 5)), (by first | rfl | (simp; done) | (simp [*]; done)), H', ⟨by first | omega | exact Nat.le_refl _⟩, by repeat (first | exact Drawn0.refl _ | apply Drawn0.step)⟩
      · rw [if_neg c6] at H
        have c6b0 : (a1 == 5) = false := beq_eq_false_iff_ne.mpr c6
        have c6b1 : (a1 != 5) = true := bne_iff_ne.mpr c6
        by_cases c7 : a1 = 7
        · rw [if_pos c7] at H
          have c7b0 : (a1 == 7) = true := beq_iff_eq.mpr c7
          have c7b1 : (a1 != 7) = false := bne_eq_false_iff_eq.mpr c7
          clear c7
          have H' := Aside0.mk H
          clear H
          go_wp2
          go_meet
          case rel => exact ⟨_, ((a1 == 7)), (by first | rfl | (simp; done) | (simp [*]; done)), H', ⟨by first | omega | exact Nat.le_refl _⟩, by repeat (first | exact Drawn0.refl _ | apply Drawn0.step)⟩
        · rw [if_neg c7] at H
          have c7b0 : (a1 == 7) = false := beq_eq_false_iff_ne.mpr c7
          have c7b1 : (a1 != 7) = true := bne_iff_ne.mpr c7
          by_cases c8 : a1 = 8
          · rw [if_pos c8] at H
            have c8b0 : (a1 == 8) = true := beq_iff_eq.mpr c8
            have c8b1 : (a1 != 8) = false := bne_eq_false_iff_eq.mpr c8
            clear c8
            have H' := Aside0.mk H
            clear H
            go_wp2
            go_meet
            case rel => exact ⟨_, ((a1 == 8)), (by first | rfl | (simp; done) | (simp [*]; done)), H', ⟨by first | omega | exact Nat.le_refl _⟩, by repeat (first | exact Drawn0.refl _ | apply Drawn0.step)⟩
          · rw [if_neg c8] at H
            have c8b0 : (a1 == 8) = false := beq_eq_false_iff_ne.mpr c8
            have c8b1 : (a1 != 8) = true := bne_iff_ne.mpr c8
            by_cases c9 : a1 = 10
            · rw [if_pos c9] at H
              have c9b0 : (a1 == 10) = true := beq_iff_eq.mpr c9
              have c9b1 : (a1 != 10) = false := bne_eq_false_iff_eq.mpr c9
              clear c9
              have H' := Aside0.mk H
              clear H
              go_wp2
              go_meet
              case rel => exact ⟨_, ((a1 == 10)), (by first | rfl | (simp; done) | (simp [*]; done)), H', ⟨by first | omega | exact Nat.le_refl _⟩, by repeat (first | exact Drawn0.refl _ | apply Drawn0.step)⟩
            · rw [if_neg c9] at H
              have c9b0 : (a1 == 10) = false := beq_eq_false_iff_ne.mpr c9
              have c9b1 : (a1 != 10) = true := bne_iff_ne.mpr c9
              have H' := Aside0.mk H
              clear H
              go_wp2
              go_meet
              case rel => exact ⟨_, ((a1 == 12)), (by first | rfl | (simp; done) | (simp [*]; done)), H', ⟨by first | omega | exact Nat.le_refl _⟩, by repeat (first | exact Drawn0.refl _ | apply Drawn0.step)⟩
 case rest =>
  clear HC3
  try clear c1
  try clear p2
  try clear c4
  try clear c4b0
  try clear c4b1
  try clear c5
  try clear c5b0
  try clear c5b1
  try clear c6
  try clear c6b0
  try clear c6b1
  try clear c7
  try clear c7b0
  try clear c7b1
  try clear c8
  try clear c8b0
  try clear c8b1
  try clear c9
  try clear c9b0
  try clear c9b1
  obtain ⟨kq, x6_2, rfl, HA, HJ2, ⟨mc2, rfl⟩⟩ := hcut
  cases kq with
  | zero => exact absurd HA.out (by simp [kC.j0])
  | succ kj2 =>
   have H := HA.out
   clear HA
   simp only [kC.j0] at H
   by_cases c10 : x6_2 = true
   · subst c10
     have H1 : (some 31) = some r := by rw [if_pos rfl] at H; exact H
     clear H
     have H := H1
     clear H1
     obtain rfl := Option.some.inj H
     go_wp2
     go_ret
     exact ⟨by first | rfl | (simp; done) | (simp [*]; done), by repeat (first | exact Drawn0.refl _ | apply Drawn0.step)⟩
   · replace c10 := Bool.eq_false_iff.mpr c10
     subst c10
     have H1 : (if a1 = 4 then (kC.j1 kj2 a0 a1 (a1 == 4)) else (if a1 = 6 then (kC.j1 kj2 a0 a1 (a1 == 6)) else (if a1 = 9 then (kC.j1 kj2 a0 a1 (a1 == 9)) else (kC.j1 kj2 a0 a1 (a1 == 11))))) = some r := by rw [if_neg (show ¬ (false = true) by decide)] at H; exact H
     clear H
     have H := H1
     clear H1
     have HC11 := Aside0.mk H
     clear H
     go_upto_if 14 with (fail)
     go_cut [14] (fun v14 wc => ∃ (kq : Nat) (x14_10 : Bool), v14 = .bool x14_10 ∧ Aside0 (kC.j1 kq a0 a1 x14_10 = some r) ∧ Aside0 (kq ≤ kj2) ∧ Drawn0 w wc)
     case first =>
      have H := HC11.out
      clear HC11
      by_cases c12 : a1 = 4
      · rw [if_pos c12] at H
        have c12b0 : (a1 == 4) = true := beq_iff_eq.mpr c12
        have c12b1 : (a1 != 4) = false := bne_eq_false_iff_eq.mpr c12
        clear c12
        (first | rw [c12b0] | (simp only [i64_w, i32_w]; rw [c12b0]) | skip)
        have H' := Aside0.mk H
        clear H
        go_wp2
        go_meet
        case rel => exact ⟨_, ((a1 == 4)), (by first | rfl | (simp; done) | (simp [*]; done)), H', ⟨by have := HJ2.out; first | omega | exact Nat.le_refl _⟩, by repeat (first | exact Drawn0.refl _ | apply Drawn0.step)⟩
      · rw [if_neg c12] at H
        have c12b0 : (a1 == 4) = false := beq_eq_false_iff_ne.mpr c12
        have c12b1 : (a1 != 4) = true := bne_iff_ne.mpr c12
        (first | rw [c12b0] | (simp only [i64_w, i32_w]; rw [c12b0]) | skip)
        by_cases c13 : a1 = 6
        · rw [if_pos c13] at H
          have c13b0 : (a1 == 6) = true := beq_iff_eq.mpr c13
          have c13b1 : (a1 != 6) = false := bne_eq_false_iff_eq.mpr c13
          clear c13
          have H' := Aside0.mk H
          clear H
          go_wp2
          go_meet
          case rel => exact ⟨_, ((a1 == 6)), (by first | rfl | (simp; done) | (simp [*]; done)), H', ⟨by have := HJ2.out; first | omega | exact Nat.le_refl _⟩, by repeat (first | exact Drawn0.refl _ | apply Drawn0.step)⟩
        · rw [if_neg c13] at H
          have c13b0 : (a1 == 6) = false := beq_eq_false_iff_ne.mpr c13
          have c13b1 : (a1 != 6) = true := bne_iff_ne.mpr c13
          by_cases c14 : a1 = 9
          · rw [if_pos c14] at H
            have c14b0 : (a1 == 9) = true := beq_iff_eq.mpr c14
            have c14b1 : (a1 != 9) = false := bne_eq_false_iff_eq.mpr c14
            clear c14
            have H' := Aside0.mk H
            clear H
            go_wp2
            go_meet
            case rel => exact ⟨_, ((a1 == 9)), (by first | rfl | (simp; done) | (simp [*]; done)), H', ⟨by have := HJ2.out; first | omega | exact Nat.le_refl _⟩, by repeat (first | exact Drawn0.refl _ | apply Drawn0.step)⟩
          · rw [if_neg c14] at H
            have c14b0 : (a1 == 9) = false := beq_eq_false_iff_ne.mpr c14
            have c14b1 : (a1 != 9) = true := bne_iff_ne.mpr c14
            have H' := Aside0.mk H
            clear H
            go_wp2
            go_meet
            case rel => exact ⟨_, ((a1 == 11)), (by first | rfl | (simp; done) | (simp [*]; done)), H', ⟨by have := HJ2.out; first | omega | exact Nat.le_refl _⟩, by repeat (first | exact Drawn0.refl _ | apply Drawn0.step)⟩
     case rest =>
      clear HC11
      try clear c1
      try clear c2
      try clear p2
      try clear c4
      try clear c4b0
      try clear c4b1
      try clear c5
      try clear c5b0
      try clear c5b1
      try clear c6
      try clear c6b0
      try clear c6b1
      try clear c7
      try clear c7b0
      try clear c7b1
      try clear c8
      try clear c8b0
      try clear c8b1
      try clear c9
      try clear c9b0
      try clear c9b1
      try clear c10
      try clear c12
      try clear c12b0
      try clear c12b1
      try clear c13
      try clear c13b0
      try clear c13b1
      try clear c14
      try clear c14b0
      try clear c14b1
      try clear p2
      obtain ⟨kq, x14_10, rfl, HA, HJ10, ⟨mc10, rfl⟩⟩ := hcut
      cases kq with
      | zero => exact absurd HA.out (by simp [kC.j1])
      | succ kj10 =>
       have H := HA.out
       clear HA
       simp only [kC.j1] at H
       by_cases c15 : x14_10 = true
       · subst c15
         have H1 : (some 30) = some r := by rw [if_pos rfl] at H; exact H
         clear H
         have H := H1
         clear H1
         obtain rfl := Option.some.inj H
         go_wp2
         go_ret
         exact ⟨by first | rfl | (simp; done) | (simp [*]; done), by repeat (first | exact Drawn0.refl _ | apply Drawn0.step)⟩
       · replace c15 := Bool.eq_false_iff.mpr c15
         subst c15
         have H1 : (if a1 = 2 then ((bJ.f a0).bind fun t327 => (if t327 = true then (some 29) else (some 28))) else (some 0)) = some r := by rw [if_neg (show ¬ (false = true) by decide)] at H; exact H
         clear H
         have H := H1
         clear H1
         by_cases c16 : a1 = 2
         · rw [if_pos c16] at H
           have c16b0 : (a1 == 2) = true := beq_iff_eq.mpr c16
           have c16b1 : (a1 != 2) = false := bne_eq_false_iff_eq.mpr c16
           clear c16
           replace H := Option.bind_eq_some_iff.mp H
           obtain ⟨t327, A170, H⟩ := H
           replace H : (if t327 = true then (some 29) else (some 28)) = some r := H
           have A17 := Aside0.mk A170
           clear A170
           by_cases c18 : t327 = true
           · subst c18
             have H1 : (some 29) = some r := by rw [if_pos rfl] at H; exact H
             clear H
             have H := H1
             clear H1
             obtain rfl := Option.some.inj H
             go_wp2_with (first | ((with_reducible refine kU (f := 142) rfl ?_); refine jD (some 22) rfl rfl Tryz.func142 (by kernel_rfl) rfl #[.int .i64 a0] rfl (by (try simp only [List.map_toArray, List.map_cons, List.map_nil]); first | done | rfl | (simp only [List.length_drop, List.length_take]; rfl)) ?_; (with_reducible refine (bJ.calls a0 true _ A17.out).mono ?_); rintro e w' ⟨rfl, ⟨nd, rfl⟩⟩; refine ⟨_, rfl, ?_⟩))
             go_ret
             exact ⟨by first | rfl | (simp; done) | (simp [*]; done), by repeat (first | exact Drawn0.refl _ | apply Drawn0.step)⟩
           · replace c18 := Bool.eq_false_iff.mpr c18
             subst c18
             have H1 : (some 28) = some r := by rw [if_neg (show ¬ (false = true) by decide)] at H; exact H
             clear H
             have H := H1
             clear H1
             obtain rfl := Option.some.inj H
             go_wp2_with (first | ((with_reducible refine kU (f := 142) rfl ?_); refine jD (some 22) rfl rfl Tryz.func142 (by kernel_rfl) rfl #[.int .i64 a0] rfl (by (try simp only [List.map_toArray, List.map_cons, List.map_nil]); first | done | rfl | (simp only [List.length_drop, List.length_take]; rfl)) ?_; (with_reducible refine (bJ.calls a0 false _ A17.out).mono ?_); rintro e w' ⟨rfl, ⟨nd, rfl⟩⟩; refine ⟨_, rfl, ?_⟩))
             go_ret
             exact ⟨by first | rfl | (simp; done) | (simp [*]; done), by repeat (first | exact Drawn0.refl _ | apply Drawn0.step)⟩
         · rw [if_neg c16] at H
           have c16b0 : (a1 == 2) = false := beq_eq_false_iff_ne.mpr c16
           have c16b1 : (a1 != 2) = true := bne_iff_ne.mpr c16
           obtain rfl := Option.some.inj H
           go_wp2
           go_ret
           exact ⟨by first | rfl | (simp; done) | (simp [*]; done), by repeat (first | exact Drawn0.refl _ | apply Drawn0.step)⟩
def jA.f (a0 : Int) (a1 : Int) : Option (Int) := if a1 = 0 then (none) else (if (Int.tmod a0 a1) < 0 then (some (wrap64 ((wrap64 (Int.tdiv a0 a1)) - 1))) else (some (wrap64 (Int.tdiv a0 a1))))
set_option maxHeartbeats 8000000 in
set_option maxRecDepth 100000 in
theorem jA.calls (a0 : Int) (a1 : Int) (r : Int) (w : World) (h : jA.f a0 a1 = some r) :
 Calls Tryz.prog 140 #[.int .i64 a0, .int .i64 a1] w fun e w' => e = .returned (.int .i64 r) ∧ Drawn0 w w' := by
 have H : (if a1 = 0 then (none) else (if (Int.tmod a0 a1) < 0 then (some (wrap64 ((wrap64 (Int.tdiv a0 a1)) - 1))) else (some (wrap64 (Int.tdiv a0 a1))))) = some r := h
 clear h
 by_cases c3 : a1 = 0
 · rw [if_pos c3] at H
   exact absurd H (by simp)
 · rw [if_neg c3] at H
   have c3b0 : (a1 == 0) = false := beq_eq_false_iff_ne.mpr c3
   have c3b1 : (a1 != 0) = true := bne_iff_ne.mpr c3
   by_cases c4 : (Int.tmod a0 a1) < 0
   · rw [if_pos c4] at H
     have c4b0 : decide ((Int.tmod a0 a1) < 0) = true := decide_eq_true c4
     clear c4
     obtain rfl := Option.some.inj H
     go_enter Tryz.func140, Tryz.ntmps140
     go_wp2
     go_ret
     exact ⟨by first | rfl | (simp; done) | (simp [*]; done), by repeat (first | exact Drawn0.refl _ | apply Drawn0.step)⟩
   · rw [if_neg c4] at H
     have c4b0 : decide ((Int.tmod a0 a1) < 0) = false := decide_eq_false c4
     clear c4
     obtain rfl := Option.some.inj H
     go_enter Tryz.func140, Tryz.ntmps140
     go_wp2
     go_ret
     exact ⟨by first | rfl | (simp; done) | (simp [*]; done), by repeat (first | exact Drawn0.refl _ | apply Drawn0.step)⟩
def kR.l0 : Nat → Int → Int → Int → Option (Int)
 | 0, _, _, _ => none
 | k + 1, x0, x3, x4 => (kL.f (wrap64 (x0 - 2000)) 400).bind fun t329 => (if x4 < t329 then ((bJ.f (wrap64 (2000 + x4))).bind fun t330 => (if t330 = true then (kR.l0 k x0 (wrap64 ((wrap64 (x3 + 365)) + 1)) (wrap64 (x4 + 1))) else (kR.l0 k x0 (wrap64 (x3 + 365)) (wrap64 (x4 + 1))))) else (some x3))
def kR.f (k : Nat) (a0 : Int) : Option (Int) := (jA.f (wrap64 (a0 - 2000)) 400).bind fun t328 => (kR.l0 k a0 (wrap64 (t328 * 146097)) 0)
set_option maxHeartbeats 8000000 in
set_option maxRecDepth 100000 in
theorem kR.calls (k : Nat) (a0 : Int) (r : Int) (w : World) (h : kR.f k a0 = some r) :
 Calls Tryz.prog 167 #[.int .i64 a0] w fun e w' => e = .returned (.int .i64 r) ∧ Drawn0 w w' := by
 have H : ((jA.f (wrap64 (a0 - 2000)) 400).bind fun t328 => (kR.l0 k a0 (wrap64 (t328 * 146097)) 0)) = some r := h
 clear h
 replace H := Option.bind_eq_some_iff.mp H
 obtain ⟨t328, A20, H⟩ := H
 replace H : (kR.l0 k a0 (wrap64 (t328 * 146097)) 0) = some r := H
 have A2 := Aside0.mk A20
 clear A20
 have H' := Aside0.mk H
 clear H
 go_enter Tryz.func167, Tryz.ntmps167
 go_wp2_with (first | ((with_reducible refine kU (f := 140) rfl ?_); refine jD (some 7) rfl rfl Tryz.func140 (by kernel_rfl) rfl #[.int .i64 (wrap64 (a0 - 2000)), .int .i64 400] rfl (by (try simp only [List.map_toArray, List.map_cons, List.map_nil]); first | done | rfl | (simp only [List.length_drop, List.length_take]; rfl)) ?_; (with_reducible refine (jA.calls (wrap64 (a0 - 2000)) 400 t328 _ A2.out).mono ?_); rintro e w' ⟨rfl, ⟨nd, rfl⟩⟩; refine ⟨_, rfl, ?_⟩))
 go_loopg [3, 4] k (fun kq v3 v4 w' => ∃ (x3_1 : Int) (x4_1 : Int), v3 = .int .i64 x3_1 ∧ v4 = .int .i64 x4_1 ∧ Aside0 (kR.l0 kq a0 x3_1 x4_1 = some r) ∧ Aside0 (kq ≤ k) ∧ Drawn0 w w')
 case atStart => exact ⟨(wrap64 (t328 * 146097)), (0), (by first | rfl | (simp; done) | (simp [*]; done)), (by first | rfl | (simp; done) | (simp [*]; done)), H', ⟨Nat.le_refl _⟩, by repeat (first | exact Drawn0.refl _ | apply Drawn0.step)⟩
 case round =>
  clear H'
  try clear c1
  try clear p2
  obtain ⟨x3_1, x4_1, rfl, rfl, HA, HK1, ⟨m1, rfl⟩⟩ := hrel
  cases gk with
  | zero => exact absurd HA.out (by simp [kR.l0])
  | succ k1 =>
   have H := HA.out
   clear HA
   simp only [kR.l0] at H
   replace H := Option.bind_eq_some_iff.mp H
   obtain ⟨t329, A30, H⟩ := H
   replace H : (if x4_1 < t329 then ((bJ.f (wrap64 (2000 + x4_1))).bind fun t330 => (if t330 = true then (kR.l0 k1 a0 (wrap64 ((wrap64 (x3_1 + 365)) + 1)) (wrap64 (x4_1 + 1))) else (kR.l0 k1 a0 (wrap64 (x3_1 + 365)) (wrap64 (x4_1 + 1))))) else (some x3_1)) = some r := H
   have A3 := Aside0.mk A30
   clear A30
   by_cases c4 : x4_1 < t329
   · rw [if_pos c4] at H
     have c4b0 : decide (x4_1 < t329) = true := decide_eq_true c4
     clear c4
     replace H := Option.bind_eq_some_iff.mp H
     obtain ⟨t330, A50, H⟩ := H
     replace H : (if t330 = true then (kR.l0 k1 a0 (wrap64 ((wrap64 (x3_1 + 365)) + 1)) (wrap64 (x4_1 + 1))) else (kR.l0 k1 a0 (wrap64 (x3_1 + 365)) (wrap64 (x4_1 + 1)))) = some r := H
     have A5 := Aside0.mk A50
     clear A50
     by_cases c6 : t330 = true
     · subst c6
       have H1 : (kR.l0 k1 a0 (wrap64 ((wrap64 (x3_1 + 365)) + 1)) (wrap64 (x4_1 + 1))) = some r := by rw [if_pos rfl] at H; exact H
       clear H
       have H := H1
       clear H1
       have H' := Aside0.mk H
       clear H
       go_wp2_with (first | ((with_reducible refine kU (f := 141) rfl ?_); refine jD (some 12) rfl rfl Tryz.func141 (by kernel_rfl) rfl #[.int .i64 (wrap64 (a0 - 2000)), .int .i64 400] rfl (by (try simp only [List.map_toArray, List.map_cons, List.map_nil]); first | done | rfl | (simp only [List.length_drop, List.length_take]; rfl)) ?_; (with_reducible refine (kL.calls (wrap64 (a0 - 2000)) 400 t329 _ A3.out).mono ?_); rintro e w' ⟨rfl, ⟨nd, rfl⟩⟩; refine ⟨_, rfl, ?_⟩) | ((with_reducible refine kU (f := 142) rfl ?_); refine jD (some 20) rfl rfl Tryz.func142 (by kernel_rfl) rfl #[.int .i64 (wrap64 (2000 + x4_1))] rfl (by (try simp only [List.map_toArray, List.map_cons, List.map_nil]); first | done | rfl | (simp only [List.length_drop, List.length_take]; rfl)) ?_; (with_reducible refine (bJ.calls (wrap64 (2000 + x4_1)) true _ A5.out).mono ?_); rintro e w' ⟨rfl, ⟨nd, rfl⟩⟩; refine ⟨_, rfl, ?_⟩))
       go_roundg k1
       case measure => have := HK1.out; omega
       case rel => exact ⟨(wrap64 ((wrap64 (x3_1 + 365)) + 1)), (wrap64 (x4_1 + 1)), (by first | rfl | (simp; done) | (simp [*]; done)), (by first | rfl | (simp; done) | (simp [*]; done)), H', ⟨by have := HK1.out; omega⟩, by repeat (first | exact Drawn0.refl _ | apply Drawn0.step)⟩
     · replace c6 := Bool.eq_false_iff.mpr c6
       subst c6
       have H1 : (kR.l0 k1 a0 (wrap64 (x3_1 + 365)) (wrap64 (x4_1 + 1))) = some r := by rw [if_neg (show ¬ (false = true) by decide)] at H; exact H
       clear H
       have H := H1
       clear H1
       have H' := Aside0.mk H
       clear H
       go_wp2_with (first | ((with_reducible refine kU (f := 141) rfl ?_); refine jD (some 12) rfl rfl Tryz.func141 (by kernel_rfl) rfl #[.int .i64 (wrap64 (a0 - 2000)), .int .i64 400] rfl (by (try simp only [List.map_toArray, List.map_cons, List.map_nil]); first | done | rfl | (simp only [List.length_drop, List.length_take]; rfl)) ?_; (with_reducible refine (kL.calls (wrap64 (a0 - 2000)) 400 t329 _ A3.out).mono ?_); rintro e w' ⟨rfl, ⟨nd, rfl⟩⟩; refine ⟨_, rfl, ?_⟩) | ((with_reducible refine kU (f := 142) rfl ?_); refine jD (some 20) rfl rfl Tryz.func142 (by kernel_rfl) rfl #[.int .i64 (wrap64 (2000 + x4_1))] rfl (by (try simp only [List.map_toArray, List.map_cons, List.map_nil]); first | done | rfl | (simp only [List.length_drop, List.length_take]; rfl)) ?_; (with_reducible refine (bJ.calls (wrap64 (2000 + x4_1)) false _ A5.out).mono ?_); rintro e w' ⟨rfl, ⟨nd, rfl⟩⟩; refine ⟨_, rfl, ?_⟩))
       go_roundg k1
       case measure => have := HK1.out; omega
       case rel => exact ⟨(wrap64 (x3_1 + 365)), (wrap64 (x4_1 + 1)), (by first | rfl | (simp; done) | (simp [*]; done)), (by first | rfl | (simp; done) | (simp [*]; done)), H', ⟨by have := HK1.out; omega⟩, by repeat (first | exact Drawn0.refl _ | apply Drawn0.step)⟩
   · rw [if_neg c4] at H
     have c4b0 : decide (x4_1 < t329) = false := decide_eq_false c4
     clear c4
     obtain rfl := Option.some.inj H
     go_wp2_with (first | ((with_reducible refine kU (f := 141) rfl ?_); refine jD (some 12) rfl rfl Tryz.func141 (by kernel_rfl) rfl #[.int .i64 (wrap64 (a0 - 2000)), .int .i64 400] rfl (by (try simp only [List.map_toArray, List.map_cons, List.map_nil]); first | done | rfl | (simp only [List.length_drop, List.length_take]; rfl)) ?_; (with_reducible refine (kL.calls (wrap64 (a0 - 2000)) 400 t329 _ A3.out).mono ?_); rintro e w' ⟨rfl, ⟨nd, rfl⟩⟩; refine ⟨_, rfl, ?_⟩))
     go_ret
     exact ⟨by first | rfl | (simp; done) | (simp [*]; done), by repeat (first | exact Drawn0.refl _ | apply Drawn0.step)⟩
def kS.l0 : Nat → Int → Int → Int → Int → Option (Int)
 | 0, _, _, _, _ => none
 | k + 1, x0, x1, x7, x8 => if x8 < x1 then ((kC.f k x0 x8).bind fun t332 => (kS.l0 k x0 x1 (wrap64 (x7 + t332)) (wrap64 (x8 + 1)))) else (some x7)
def kS.f (k : Nat) (a0 : Int) (a1 : Int) (a2 : Int) : Option (Int) := (kR.f k a0).bind fun t331 => (kS.l0 k a0 a1 (wrap64 ((wrap64 (t331 + a2)) - 1)) 1)
set_option maxHeartbeats 8000000 in
set_option maxRecDepth 100000 in
theorem kS.calls (k : Nat) (a0 : Int) (a1 : Int) (a2 : Int) (r : Int) (w : World) (h : kS.f k a0 a1 a2 = some r) :
 Calls Tryz.prog 144 #[.int .i64 a0, .int .i64 a1, .int .i64 a2] w fun e w' => e = .returned (.int .i64 r) ∧ Drawn0 w w' := by
 have H : ((kR.f k a0).bind fun t331 => (kS.l0 k a0 a1 (wrap64 ((wrap64 (t331 + a2)) - 1)) 1)) = some r := h
 clear h
 replace H := Option.bind_eq_some_iff.mp H
 obtain ⟨t331, A40, H⟩ := H
 replace H : (kS.l0 k a0 a1 (wrap64 ((wrap64 (t331 + a2)) - 1)) 1) = some r := H
 have A4 := Aside0.mk A40
 clear A40
 have H' := Aside0.mk H
 clear H
 go_enter Tryz.func144, Tryz.ntmps144
 go_wp2_with (first | ((with_reducible refine kU (f := 167) rfl ?_); refine jD (some 10) rfl rfl Tryz.func167 (by kernel_rfl) rfl #[.int .i64 a0] rfl (by (try simp only [List.map_toArray, List.map_cons, List.map_nil]); first | done | rfl | (simp only [List.length_drop, List.length_take]; rfl)) ?_; (with_reducible refine (kR.calls k a0 t331 _ A4.out).mono ?_); rintro e w' ⟨rfl, ⟨nd, rfl⟩⟩; refine ⟨_, rfl, ?_⟩))
 go_loopg [7, 8] k (fun kq v7 v8 w' => ∃ (x7_1 : Int) (x8_1 : Int), v7 = .int .i64 x7_1 ∧ v8 = .int .i64 x8_1 ∧ Aside0 (kS.l0 kq a0 a1 x7_1 x8_1 = some r) ∧ Aside0 (kq ≤ k) ∧ Drawn0 w w')
 case atStart => exact ⟨(wrap64 ((wrap64 (t331 + a2)) - 1)), (1), (by first | rfl | (simp; done) | (simp [*]; done)), (by first | rfl | (simp; done) | (simp [*]; done)), H', ⟨Nat.le_refl _⟩, by repeat (first | exact Drawn0.refl _ | apply Drawn0.step)⟩
 case round =>
  clear H'
  try clear c1
  try clear p2
  obtain ⟨x7_1, x8_1, rfl, rfl, HA, HK1, ⟨m1, rfl⟩⟩ := hrel
  cases gk with
  | zero => exact absurd HA.out (by simp [kS.l0])
  | succ k1 =>
   have H := HA.out
   clear HA
   simp only [kS.l0] at H
   by_cases c5 : x8_1 < a1
   · rw [if_pos c5] at H
     have c5b0 : decide (x8_1 < a1) = true := decide_eq_true c5
     clear c5
     replace H := Option.bind_eq_some_iff.mp H
     obtain ⟨t332, A60, H⟩ := H
     replace H : (kS.l0 k1 a0 a1 (wrap64 (x7_1 + t332)) (wrap64 (x8_1 + 1))) = some r := H
     have A6 := Aside0.mk A60
     clear A60
     have H' := Aside0.mk H
     clear H
     go_wp2_with (first | ((with_reducible refine kU (f := 143) rfl ?_); refine jD (some 22) rfl rfl Tryz.func143 (by kernel_rfl) rfl #[.int .i64 a0, .int .i64 x8_1] rfl (by (try simp only [List.map_toArray, List.map_cons, List.map_nil]); first | done | rfl | (simp only [List.length_drop, List.length_take]; rfl)) ?_; (with_reducible refine (kC.calls k1 a0 x8_1 t332 _ A6.out).mono ?_); rintro e w' ⟨rfl, ⟨nd, rfl⟩⟩; refine ⟨_, rfl, ?_⟩))
     go_roundg k1
     case measure => have := HK1.out; omega
     case rel => exact ⟨(wrap64 (x7_1 + t332)), (wrap64 (x8_1 + 1)), (by first | rfl | (simp; done) | (simp [*]; done)), (by first | rfl | (simp; done) | (simp [*]; done)), H', ⟨by have := HK1.out; omega⟩, by repeat (first | exact Drawn0.refl _ | apply Drawn0.step)⟩
   · rw [if_neg c5] at H
     have c5b0 : decide (x8_1 < a1) = false := decide_eq_false c5
     clear c5
     obtain rfl := Option.some.inj H
     go_wp2
     go_ret
     exact ⟨by first | rfl | (simp; done) | (simp [*]; done), by repeat (first | exact Drawn0.refl _ | apply Drawn0.step)⟩
def jL.f (k : Nat)  : Option (Int) := (kS.f k (-4718) 1 1).bind fun t333 => (some t333)
set_option maxHeartbeats 8000000 in
set_option maxRecDepth 100000 in
theorem jL.calls (k : Nat)  (r : Int) (w : World) (h : jL.f k  = some r) :
 Calls Tryz.prog 108 #[] w fun e w' => e = .returned (.int .i64 r) ∧ Drawn0 w w' := by
 have H : ((kS.f k (-4718) 1 1).bind fun t333 => (some t333)) = some r := h
 clear h
 replace H := Option.bind_eq_some_iff.mp H
 obtain ⟨t333, A10, H⟩ := H
 replace H : (some t333) = some r := H
 have A1 := Aside0.mk A10
 clear A10
 obtain rfl := Option.some.inj H
 go_enter Tryz.func108, Tryz.ntmps108
 go_wp2_with (first | ((with_reducible refine kU (f := 144) rfl ?_); refine jD (some 1) rfl rfl Tryz.func144 (by kernel_rfl) rfl #[.int .i64 (-4718), .int .i64 1, .int .i64 1] rfl (by (try simp only [List.map_toArray, List.map_cons, List.map_nil]); first | done | rfl | (simp only [List.length_drop, List.length_take]; rfl)) ?_; (with_reducible refine (kS.calls k (-4718) 1 1 t333 _ A1.out).mono ?_); rintro e w' ⟨rfl, ⟨nd, rfl⟩⟩; refine ⟨_, rfl, ?_⟩))
 go_ret
 exact ⟨by first | rfl | (simp; done) | (simp [*]; done), by repeat (first | exact Drawn0.refl _ | apply Drawn0.step)⟩
def jV.f (k : Nat)  : Option (Int) := (kS.f k 294282 12 31).bind fun t334 => (some t334)
set_option maxHeartbeats 8000000 in
set_option maxRecDepth 100000 in
theorem jV.calls (k : Nat)  (r : Int) (w : World) (h : jV.f k  = some r) :
 Calls Tryz.prog 166 #[] w fun e w' => e = .returned (.int .i64 r) ∧ Drawn0 w w' := by
 have H : ((kS.f k 294282 12 31).bind fun t334 => (some t334)) = some r := h
 clear h
 replace H := Option.bind_eq_some_iff.mp H
 obtain ⟨t334, A10, H⟩ := H
 replace H : (some t334) = some r := H
 have A1 := Aside0.mk A10
 clear A10
 obtain rfl := Option.some.inj H
 go_enter Tryz.func166, Tryz.ntmps166
 go_wp2_with (first | ((with_reducible refine kU (f := 144) rfl ?_); refine jD (some 1) rfl rfl Tryz.func144 (by kernel_rfl) rfl #[.int .i64 294282, .int .i64 12, .int .i64 31] rfl (by (try simp only [List.map_toArray, List.map_cons, List.map_nil]); first | done | rfl | (simp only [List.length_drop, List.length_take]; rfl)) ?_; (with_reducible refine (kS.calls k 294282 12 31 t334 _ A1.out).mono ?_); rintro e w' ⟨rfl, ⟨nd, rfl⟩⟩; refine ⟨_, rfl, ?_⟩))
 go_ret
 exact ⟨by first | rfl | (simp; done) | (simp [*]; done), by repeat (first | exact Drawn0.refl _ | apply Drawn0.step)⟩
def jX.f (k : Nat) (a0 : Int) : Option (Bool) := (jL.f k).bind fun t335 => (if a0 ≥ t335 then ((jV.f k).bind fun t336 => (some (decide (a0 ≤ t336)))) else (some false))
set_option maxHeartbeats 8000000 in
set_option maxRecDepth 100000 in
theorem jX.calls (k : Nat) (a0 : Int) (r : Bool) (w : World) (h : jX.f k a0 = some r) :
 Calls Tryz.prog 139 #[.int .i64 a0] w fun e w' => e = .returned (.bool r) ∧ Drawn0 w w' := by
 have H : ((jL.f k).bind fun t335 => (if a0 ≥ t335 then ((jV.f k).bind fun t336 => (some (decide (a0 ≤ t336)))) else (some false))) = some r := h
 clear h
 replace H := Option.bind_eq_some_iff.mp H
 obtain ⟨t335, A20, H⟩ := H
 replace H : (if a0 ≥ t335 then ((jV.f k).bind fun t336 => (some (decide (a0 ≤ t336)))) else (some false)) = some r := H
 have A2 := Aside0.mk A20
 clear A20
 by_cases c3 : a0 ≥ t335
 · rw [if_pos c3] at H
   have c3b0 : decide (t335 ≤ a0) = true := decide_eq_true c3
   clear c3
   replace H := Option.bind_eq_some_iff.mp H
   obtain ⟨t336, A40, H⟩ := H
   replace H : (some (decide (a0 ≤ t336))) = some r := H
   have A4 := Aside0.mk A40
   clear A40
   obtain rfl := Option.some.inj H
   go_enter Tryz.func139, Tryz.ntmps139
   go_wp2_with (first | ((with_reducible refine kU (f := 108) rfl ?_); refine jD (some 4) rfl rfl Tryz.func108 (by kernel_rfl) rfl #[] rfl (by (try simp only [List.map_toArray, List.map_cons, List.map_nil]); first | done | rfl | (simp only [List.length_drop, List.length_take]; rfl)) ?_; (with_reducible refine (jL.calls k  t335 _ A2.out).mono ?_); rintro e w' ⟨rfl, ⟨nd, rfl⟩⟩; refine ⟨_, rfl, ?_⟩) | (go_at_call 166; (with_reducible refine (jV.calls k  t336 _ A4.out).mono ?_); rintro e w' ⟨rfl, ⟨nd, rfl⟩⟩))
   go_ret
   exact ⟨by first | rfl | (simp; done) | (simp [*]; done), by repeat (first | exact Drawn0.refl _ | apply Drawn0.step)⟩
 · rw [if_neg c3] at H
   have c3b0 : decide (t335 ≤ a0) = false := decide_eq_false c3
   clear c3
   obtain rfl := Option.some.inj H
   go_enter Tryz.func139, Tryz.ntmps139
   go_wp2_with (first | ((with_reducible refine kU (f := 108) rfl ?_); refine jD (some 4) rfl rfl Tryz.func108 (by kernel_rfl) rfl #[] rfl (by (try simp only [List.map_toArray, List.map_cons, List.map_nil]); first | done | rfl | (simp only [List.length_drop, List.length_take]; rfl)) ?_; (with_reducible refine (jL.calls k  t335 _ A2.out).mono ?_); rintro e w' ⟨rfl, ⟨nd, rfl⟩⟩; refine ⟨_, rfl, ?_⟩))
   go_ret
   exact ⟨by first | rfl | (simp; done) | (simp [*]; done), by repeat (first | exact Drawn0.refl _ | apply Drawn0.step)⟩
mutual
def kD.j1 : Nat → Int → Int → Option (Int × Int × Int × Int)
 | 0, _, _ => none
 | k + 1, x6, x7 => kD.l1 k x6 x7 1
def kD.l1 : Nat → Int → Int → Int → Option (Int × Int × Int × Int)
 | 0, _, _, _ => none
 | k + 1, x6, x7, x9 => (kC.f k x6 x9).bind fun t341 => (if x7 ≥ t341 then ((kC.f k x6 x9).bind fun t342 => (kD.l1 k x6 (wrap64 (x7 - t342)) (wrap64 (x9 + 1)))) else (some (x6, x9, wrap64 (x7 + 1), 0)))
def kD.l0 : Nat → Int → Int → Option (Int × Int × Int × Int)
 | 0, _, _ => none
 | k + 1, x6, x7 => (bJ.f x6).bind fun t340 => (if t340 = true then (if x7 < 366 then (kD.j1 k x6 x7) else (kD.l0 k (wrap64 (x6 + 1)) (wrap64 (x7 - 366)))) else (if x7 < 365 then (kD.j1 k x6 x7) else (kD.l0 k (wrap64 (x6 + 1)) (wrap64 (x7 - 365)))))
end
def kD.f (k : Nat) (a0 : Int) : Option (Int × Int × Int × Int) := (jX.f k a0).bind fun t337 => (if t337 = true then ((jA.f a0 146097).bind fun t338 => ((kL.f a0 146097).bind fun t339 => (kD.l0 k (wrap64 (2000 + (wrap64 (t338 * 400)))) t339))) else (some (0, 0, 0, 10)))
set_option maxHeartbeats 8000000 in
set_option maxRecDepth 100000 in
theorem kD.calls (k : Nat) (a0 : Int) (r1 : Int) (r2 : Int) (r3 : Int) (r4 : Int) (w : World) (h : kD.f k a0 = some (r1, r2, r3, r4)) :
 Calls Tryz.prog 107 #[.int .i64 a0] w fun e w' => e = .returned (.tuple #[.int .i64 r1, .int .i64 r2, .int .i64 r3, .int .i64 r4]) ∧ Drawn0 w w' := by
 have H : ((jX.f k a0).bind fun t337 => (if t337 = true then ((jA.f a0 146097).bind fun t338 => ((kL.f a0 146097).bind fun t339 => (kD.l0 k (wrap64 (2000 + (wrap64 (t338 * 400)))) t339))) else (some (0, 0, 0, 10)))) = some (r1, r2, r3, r4) := h
 clear h
 replace H := Option.bind_eq_some_iff.mp H
 obtain ⟨t337, A20, H⟩ := H
 replace H : (if t337 = true then ((jA.f a0 146097).bind fun t338 => ((kL.f a0 146097).bind fun t339 => (kD.l0 k (wrap64 (2000 + (wrap64 (t338 * 400)))) t339))) else (some (0, 0, 0, 10))) = some (r1, r2, r3, r4) := H
 have A2 := Aside0.mk A20
 clear A20
 by_cases c3 : t337 = true
 · subst c3
   have H1 : ((jA.f a0 146097).bind fun t338 => ((kL.f a0 146097).bind fun t339 => (kD.l0 k (wrap64 (2000 + (wrap64 (t338 * 400)))) t339))) = some (r1, r2, r3, r4) := by rw [if_pos rfl] at H; exact H
   clear H
   have H := H1
   clear H1
   replace H := Option.bind_eq_some_iff.mp H
   obtain ⟨t338, A40, H⟩ := H
   replace H : ((kL.f a0 146097).bind fun t339 => (kD.l0 k (wrap64 (2000 + (wrap64 (t338 * 400)))) t339)) = some (r1, r2, r3, r4) := H
   have A4 := Aside0.mk A40
   clear A40
   replace H := Option.bind_eq_some_iff.mp H
   obtain ⟨t339, A50, H⟩ := H
   replace H : (kD.l0 k (wrap64 (2000 + (wrap64 (t338 * 400)))) t339) = some (r1, r2, r3, r4) := H
   have A5 := Aside0.mk A50
   clear A50
   have HC6 := Aside0.mk H
   clear H
   go_enter Tryz.func107, Tryz.ntmps107
   go_upto_block 0 with (first | ((with_reducible refine kU (f := 139) rfl ?_); refine jD (some 11) rfl rfl Tryz.func139 (by kernel_rfl) rfl #[.int .i64 a0] rfl (by (try simp only [List.map_toArray, List.map_cons, List.map_nil]); first | done | rfl | (simp only [List.length_drop, List.length_take]; rfl)) ?_; (with_reducible refine (jX.calls k a0 true _ A2.out).mono ?_); rintro e w' ⟨rfl, ⟨nd, rfl⟩⟩; refine ⟨_, rfl, ?_⟩) | ((with_reducible refine kU (f := 140) rfl ?_); refine jD (some 14) rfl rfl Tryz.func140 (by kernel_rfl) rfl #[.int .i64 a0, .int .i64 146097] rfl (by (try simp only [List.map_toArray, List.map_cons, List.map_nil]); first | done | rfl | (simp only [List.length_drop, List.length_take]; rfl)) ?_; (with_reducible refine (jA.calls a0 146097 t338 _ A4.out).mono ?_); rintro e w' ⟨rfl, ⟨nd, rfl⟩⟩; refine ⟨_, rfl, ?_⟩) | ((with_reducible refine kU (f := 141) rfl ?_); refine jD (some 18) rfl rfl Tryz.func141 (by kernel_rfl) rfl #[.int .i64 a0, .int .i64 146097] rfl (by (try simp only [List.map_toArray, List.map_cons, List.map_nil]); first | done | rfl | (simp only [List.length_drop, List.length_take]; rfl)) ?_; (with_reducible refine (kL.calls a0 146097 t339 _ A5.out).mono ?_); rintro e w' ⟨rfl, ⟨nd, rfl⟩⟩; refine ⟨_, rfl, ?_⟩))
   (try simp only [Act.put, List.setIfInBounds_toArray, List.set_cons_zero, List.set_cons_succ])
   go_cut [6, 7] (fun v6 v7 wc => ∃ (kq : Nat) (x6_5 : Int) (x7_5 : Int), v6 = .int .i64 x6_5 ∧ v7 = .int .i64 x7_5 ∧ Aside0 (kD.j1 kq x6_5 x7_5 = some (r1, r2, r3, r4)) ∧ Aside0 (kq ≤ k) ∧ Drawn0 w wc)
   case first =>
    have H := HC6.out
    clear HC6
    have H' := Aside0.mk H
    clear H
    go_wp2
    go_loopg [6, 7] k (fun kq v6 v7 w' => ∃ (x6_1 : Int) (x7_1 : Int), v6 = .int .i64 x6_1 ∧ v7 = .int .i64 x7_1 ∧ Aside0 (kD.l0 kq x6_1 x7_1 = some (r1, r2, r3, r4)) ∧ Aside0 (kq ≤ k) ∧ Drawn0 w w')
    case atStart => exact ⟨(wrap64 (2000 + (wrap64 (t338 * 400)))), (t339), (by first | rfl | (simp; done) | (simp [*]; done)), (by first | rfl | (simp; done) | (simp [*]; done)), H', ⟨Nat.le_refl _⟩, by repeat (first | exact Drawn0.refl _ | apply Drawn0.step)⟩
    case round =>
     clear H'
     try clear c1
     try clear p2
     try clear c3
     try clear p6
     obtain ⟨x6_1, x7_1, rfl, rfl, HA, HK1, ⟨m1, rfl⟩⟩ := hrel
     cases gk with
     | zero => exact absurd HA.out (by simp [kD.l0])
     | succ k1 =>
      have H := HA.out
      clear HA
      simp only [kD.l0] at H
      replace H := Option.bind_eq_some_iff.mp H
      obtain ⟨t340, A70, H⟩ := H
      replace H : (if t340 = true then (if x7_1 < 366 then (kD.j1 k1 x6_1 x7_1) else (kD.l0 k1 (wrap64 (x6_1 + 1)) (wrap64 (x7_1 - 366)))) else (if x7_1 < 365 then (kD.j1 k1 x6_1 x7_1) else (kD.l0 k1 (wrap64 (x6_1 + 1)) (wrap64 (x7_1 - 365))))) = some (r1, r2, r3, r4) := H
      have A7 := Aside0.mk A70
      clear A70
      by_cases c8 : t340 = true
      · subst c8
        have H1 : (if x7_1 < 366 then (kD.j1 k1 x6_1 x7_1) else (kD.l0 k1 (wrap64 (x6_1 + 1)) (wrap64 (x7_1 - 366)))) = some (r1, r2, r3, r4) := by rw [if_pos rfl] at H; exact H
        clear H
        have H := H1
        clear H1
        by_cases c9 : x7_1 < 366
        · rw [if_pos c9] at H
          have c9b0 : decide (x7_1 < 366) = true := decide_eq_true c9
          clear c9
          (first | rw [c9b0] | (simp only [i64_w, i32_w]; rw [c9b0]) | skip)
          have H' := Aside0.mk H
          clear H
          go_wp2_with (first | ((with_reducible refine kU (f := 142) rfl ?_); refine jD (some 20) rfl rfl Tryz.func142 (by kernel_rfl) rfl #[.int .i64 x6_1] rfl (by (try simp only [List.map_toArray, List.map_cons, List.map_nil]); first | done | rfl | (simp only [List.length_drop, List.length_take]; rfl)) ?_; (with_reducible refine (bJ.calls x6_1 true _ A7.out).mono ?_); rintro e w' ⟨rfl, ⟨nd, rfl⟩⟩; refine ⟨_, rfl, ?_⟩))
          go_meet
          case rel => exact ⟨_, (x6_1), (x7_1), (by first | rfl | (simp; done) | (simp [*]; done)), (by first | rfl | (simp; done) | (simp [*]; done)), H', ⟨by have := HK1.out; first | omega | exact Nat.le_refl _⟩, by repeat (first | exact Drawn0.refl _ | apply Drawn0.step)⟩
        · rw [if_neg c9] at H
          have c9b0 : decide (x7_1 < 366) = false := decide_eq_false c9
          clear c9
          (first | rw [c9b0] | (simp only [i64_w, i32_w]; rw [c9b0]) | skip)
          have H' := Aside0.mk H
          clear H
          go_wp2_with (first | ((with_reducible refine kU (f := 142) rfl ?_); refine jD (some 20) rfl rfl Tryz.func142 (by kernel_rfl) rfl #[.int .i64 x6_1] rfl (by (try simp only [List.map_toArray, List.map_cons, List.map_nil]); first | done | rfl | (simp only [List.length_drop, List.length_take]; rfl)) ?_; (with_reducible refine (bJ.calls x6_1 true _ A7.out).mono ?_); rintro e w' ⟨rfl, ⟨nd, rfl⟩⟩; refine ⟨_, rfl, ?_⟩))
          go_roundg k1
          case measure => have := HK1.out; omega
          case rel => exact ⟨(wrap64 (x6_1 + 1)), (wrap64 (x7_1 - 366)), (by first | rfl | (simp; done) | (simp [*]; done)), (by first | rfl | (simp; done) | (simp [*]; done)), H', ⟨by have := HK1.out; omega⟩, by repeat (first | exact Drawn0.refl _ | apply Drawn0.step)⟩
      · replace c8 := Bool.eq_false_iff.mpr c8
        subst c8
        have H1 : (if x7_1 < 365 then (kD.j1 k1 x6_1 x7_1) else (kD.l0 k1 (wrap64 (x6_1 + 1)) (wrap64 (x7_1 - 365)))) = some (r1, r2, r3, r4) := by rw [if_neg (show ¬ (false = true) by decide)] at H; exact H
        clear H
        have H := H1
        clear H1
        by_cases c10 : x7_1 < 365
        · rw [if_pos c10] at H
          have c10b0 : decide (x7_1 < 365) = true := decide_eq_true c10
          clear c10
          have H' := Aside0.mk H
          clear H
          go_wp2_with (first | ((with_reducible refine kU (f := 142) rfl ?_); refine jD (some 20) rfl rfl Tryz.func142 (by kernel_rfl) rfl #[.int .i64 x6_1] rfl (by (try simp only [List.map_toArray, List.map_cons, List.map_nil]); first | done | rfl | (simp only [List.length_drop, List.length_take]; rfl)) ?_; (with_reducible refine (bJ.calls x6_1 false _ A7.out).mono ?_); rintro e w' ⟨rfl, ⟨nd, rfl⟩⟩; refine ⟨_, rfl, ?_⟩))
          go_meet
          case rel => exact ⟨_, (x6_1), (x7_1), (by first | rfl | (simp; done) | (simp [*]; done)), (by first | rfl | (simp; done) | (simp [*]; done)), H', ⟨by have := HK1.out; first | omega | exact Nat.le_refl _⟩, by repeat (first | exact Drawn0.refl _ | apply Drawn0.step)⟩
        · rw [if_neg c10] at H
          have c10b0 : decide (x7_1 < 365) = false := decide_eq_false c10
          clear c10
          have H' := Aside0.mk H
          clear H
          go_wp2_with (first | ((with_reducible refine kU (f := 142) rfl ?_); refine jD (some 20) rfl rfl Tryz.func142 (by kernel_rfl) rfl #[.int .i64 x6_1] rfl (by (try simp only [List.map_toArray, List.map_cons, List.map_nil]); first | done | rfl | (simp only [List.length_drop, List.length_take]; rfl)) ?_; (with_reducible refine (bJ.calls x6_1 false _ A7.out).mono ?_); rintro e w' ⟨rfl, ⟨nd, rfl⟩⟩; refine ⟨_, rfl, ?_⟩))
          go_roundg k1
          case measure => have := HK1.out; omega
          case rel => exact ⟨(wrap64 (x6_1 + 1)), (wrap64 (x7_1 - 365)), (by first | rfl | (simp; done) | (simp [*]; done)), (by first | rfl | (simp; done) | (simp [*]; done)), H', ⟨by have := HK1.out; omega⟩, by repeat (first | exact Drawn0.refl _ | apply Drawn0.step)⟩
   case rest =>
    clear HC6
    try clear c1
    try clear p2
    try clear c3
    try clear p6
    try clear c8
    try clear c9
    try clear c9b0
    try clear c10
    try clear c10b0
    try clear p2
    try clear p6
    obtain ⟨kq, x6_5, x7_5, rfl, rfl, HA, HJ5, ⟨mc5, rfl⟩⟩ := hcut
    cases kq with
    | zero => exact absurd HA.out (by simp [kD.j1])
    | succ kj5 =>
     have H := HA.out
     clear HA
     simp only [kD.j1] at H
     have H' := Aside0.mk H
     clear H
     go_wp2
     go_loopg [7, 9] kj5 (fun kq v7 v9 w' => ∃ (x7_2 : Int) (x9_2 : Int), v7 = .int .i64 x7_2 ∧ v9 = .int .i64 x9_2 ∧ Aside0 (kD.l1 kq x6_5 x7_2 x9_2 = some (r1, r2, r3, r4)) ∧ Aside0 (kq ≤ kj5) ∧ Drawn0 w w')
     case atStart => exact ⟨(x7_5), (1), (by first | rfl | (simp; done) | (simp [*]; done)), (by first | rfl | (simp; done) | (simp [*]; done)), H', ⟨Nat.le_refl _⟩, by repeat (first | exact Drawn0.refl _ | apply Drawn0.step)⟩
     case round =>
      clear H'
      try clear c1
      try clear p2
      try clear c3
      try clear c5
      try clear p6
      try clear c8
      try clear c9
      try clear c9b0
      try clear c10
      try clear c10b0
      try clear p2
      try clear p6
      obtain ⟨x7_2, x9_2, rfl, rfl, HA, HK2, ⟨m2, rfl⟩⟩ := hrel
      cases gk with
      | zero => exact absurd HA.out (by simp [kD.l1])
      | succ k2 =>
       have H := HA.out
       clear HA
       simp only [kD.l1] at H
       replace H := Option.bind_eq_some_iff.mp H
       obtain ⟨t341, A110, H⟩ := H
       replace H : (if x7_2 ≥ t341 then ((kC.f k2 x6_5 x9_2).bind fun t342 => (kD.l1 k2 x6_5 (wrap64 (x7_2 - t342)) (wrap64 (x9_2 + 1)))) else (some (x6_5, x9_2, wrap64 (x7_2 + 1), 0))) = some (r1, r2, r3, r4) := H
       have A11 := Aside0.mk A110
       clear A110
       by_cases c12 : x7_2 ≥ t341
       · rw [if_pos c12] at H
         have c12b0 : decide (t341 ≤ x7_2) = true := decide_eq_true c12
         clear c12
         replace H := Option.bind_eq_some_iff.mp H
         obtain ⟨t342, A130, H⟩ := H
         replace H : (kD.l1 k2 x6_5 (wrap64 (x7_2 - t342)) (wrap64 (x9_2 + 1))) = some (r1, r2, r3, r4) := H
         have A13 := Aside0.mk A130
         clear A130
         have H' := Aside0.mk H
         clear H
         go_wp2_with (first | ((with_reducible refine kU (f := 143) rfl ?_); refine jD (some 32) rfl rfl Tryz.func143 (by kernel_rfl) rfl #[.int .i64 x6_5, .int .i64 x9_2] rfl (by (try simp only [List.map_toArray, List.map_cons, List.map_nil]); first | done | rfl | (simp only [List.length_drop, List.length_take]; rfl)) ?_; (with_reducible refine (kC.calls k2 x6_5 x9_2 t341 _ A11.out).mono ?_); rintro e w' ⟨rfl, ⟨nd, rfl⟩⟩; refine ⟨_, rfl, ?_⟩) | ((with_reducible refine kU (f := 143) rfl ?_); refine jD (some 37) rfl rfl Tryz.func143 (by kernel_rfl) rfl #[.int .i64 x6_5, .int .i64 x9_2] rfl (by (try simp only [List.map_toArray, List.map_cons, List.map_nil]); first | done | rfl | (simp only [List.length_drop, List.length_take]; rfl)) ?_; (with_reducible refine (kC.calls k2 x6_5 x9_2 t342 _ A13.out).mono ?_); rintro e w' ⟨rfl, ⟨nd, rfl⟩⟩; refine ⟨_, rfl, ?_⟩))
         go_roundg k2
         case measure => have := HJ5.out; have := HK2.out; omega
         case rel => exact ⟨(wrap64 (x7_2 - t342)), (wrap64 (x9_2 + 1)), (by first | rfl | (simp; done) | (simp [*]; done)), (by first | rfl | (simp; done) | (simp [*]; done)), H', ⟨by have := HJ5.out; have := HK2.out; omega⟩, by repeat (first | exact Drawn0.refl _ | apply Drawn0.step)⟩
       · rw [if_neg c12] at H
         have c12b0 : decide (t341 ≤ x7_2) = false := decide_eq_false c12
         clear c12
         simp only [Option.some.injEq, Prod.mk.injEq] at H
         obtain ⟨rfl, rfl, rfl, rfl⟩ := H
         go_wp2_with (first | ((with_reducible refine kU (f := 143) rfl ?_); refine jD (some 32) rfl rfl Tryz.func143 (by kernel_rfl) rfl #[.int .i64 x6_5, .int .i64 x9_2] rfl (by (try simp only [List.map_toArray, List.map_cons, List.map_nil]); first | done | rfl | (simp only [List.length_drop, List.length_take]; rfl)) ?_; (with_reducible refine (kC.calls k2 x6_5 x9_2 t341 _ A11.out).mono ?_); rintro e w' ⟨rfl, ⟨nd, rfl⟩⟩; refine ⟨_, rfl, ?_⟩))
         refine bodyPost_ret (results_list (rs := [.tmp 2, .tmp 3, .tmp 4, .tmp 5]) rfl (by simp) (.tmp (.tmp (.tmp (.tmp .nil))))) rfl ?_
         exact ⟨by first | rfl | (simp; done) | (simp [*]; done), by repeat (first | exact Drawn0.refl _ | apply Drawn0.step)⟩
 · replace c3 := Bool.eq_false_iff.mpr c3
   subst c3
   have H1 : (some (0, 0, 0, 10)) = some (r1, r2, r3, r4) := by rw [if_neg (show ¬ (false = true) by decide)] at H; exact H
   clear H
   have H := H1
   clear H1
   simp only [Option.some.injEq, Prod.mk.injEq] at H
   obtain ⟨rfl, rfl, rfl, rfl⟩ := H
   go_enter Tryz.func107, Tryz.ntmps107
   go_wp2_with (first | ((with_reducible refine kU (f := 139) rfl ?_); refine jD (some 11) rfl rfl Tryz.func139 (by kernel_rfl) rfl #[.int .i64 a0] rfl (by (try simp only [List.map_toArray, List.map_cons, List.map_nil]); first | done | rfl | (simp only [List.length_drop, List.length_take]; rfl)) ?_; (with_reducible refine (jX.calls k a0 false _ A2.out).mono ?_); rintro e w' ⟨rfl, ⟨nd, rfl⟩⟩; refine ⟨_, rfl, ?_⟩))
   refine bodyPost_ret (results_list (rs := [.tmp 2, .tmp 3, .tmp 4, .tmp 5]) rfl (by simp) (.tmp (.tmp (.tmp (.tmp .nil))))) rfl ?_
   exact ⟨by first | rfl | (simp; done) | (simp [*]; done), by repeat (first | exact Drawn0.refl _ | apply Drawn0.step)⟩
def jK.f (k : Nat) (a0 : Int) (a1 : Int) (a2 : Int) : Option (Bool) := if a0 ≥ (-4718) then (if a0 ≤ 294282 then (if a1 ≥ 1 then (if a1 ≤ 12 then (if a2 ≥ 1 then ((kC.f k a0 a1).bind fun t356 => (some (decide (a2 ≤ t356)))) else (some false)) else (some false)) else (some false)) else (some false)) else (some false)
set_option maxHeartbeats 8000000 in
set_option maxRecDepth 100000 in
theorem jK.calls (k : Nat) (a0 : Int) (a1 : Int) (a2 : Int) (r : Bool) (w : World) (h : jK.f k a0 a1 a2 = some r) :
 Calls Tryz.prog 155 #[.int .i64 a0, .int .i64 a1, .int .i64 a2] w fun e w' => e = .returned (.bool r) ∧ Drawn0 w w' := by
 have H : (if a0 ≥ (-4718) then (if a0 ≤ 294282 then (if a1 ≥ 1 then (if a1 ≤ 12 then (if a2 ≥ 1 then ((kC.f k a0 a1).bind fun t356 => (some (decide (a2 ≤ t356)))) else (some false)) else (some false)) else (some false)) else (some false)) else (some false)) = some r := h
 clear h
 by_cases c4 : a0 ≥ (-4718)
 · rw [if_pos c4] at H
   have c4b0 : decide ((-4718) ≤ a0) = true := decide_eq_true c4
   clear c4
   by_cases c5 : a0 ≤ 294282
   · rw [if_pos c5] at H
     have c5b0 : decide (a0 ≤ 294282) = true := decide_eq_true c5
     clear c5
     by_cases c6 : a1 ≥ 1
     · rw [if_pos c6] at H
       have c6b0 : decide (1 ≤ a1) = true := decide_eq_true c6
       clear c6
       by_cases c7 : a1 ≤ 12
       · rw [if_pos c7] at H
         have c7b0 : decide (a1 ≤ 12) = true := decide_eq_true c7
         clear c7
         by_cases c8 : a2 ≥ 1
         · rw [if_pos c8] at H
           have c8b0 : decide (1 ≤ a2) = true := decide_eq_true c8
           clear c8
           replace H := Option.bind_eq_some_iff.mp H
           obtain ⟨t356, A90, H⟩ := H
           replace H : (some (decide (a2 ≤ t356))) = some r := H
           have A9 := Aside0.mk A90
           clear A90
           obtain rfl := Option.some.inj H
           go_enter Tryz.func155, Tryz.ntmps155
           go_wp2_with (first | (go_at_call 143; (with_reducible refine (kC.calls k a0 a1 t356 _ A9.out).mono ?_); rintro e w' ⟨rfl, ⟨nd, rfl⟩⟩))
           go_ret
           exact ⟨by first | rfl | (simp; done) | (simp [*]; done), by repeat (first | exact Drawn0.refl _ | apply Drawn0.step)⟩
         · rw [if_neg c8] at H
           have c8b0 : decide (1 ≤ a2) = false := decide_eq_false c8
           clear c8
           obtain rfl := Option.some.inj H
           go_enter Tryz.func155, Tryz.ntmps155
           go_wp2
           go_ret
           exact ⟨by first | rfl | (simp; done) | (simp [*]; done), by repeat (first | exact Drawn0.refl _ | apply Drawn0.step)⟩
       · rw [if_neg c7] at H
         have c7b0 : decide (a1 ≤ 12) = false := decide_eq_false c7
         clear c7
         obtain rfl := Option.some.inj H
         go_enter Tryz.func155, Tryz.ntmps155
         go_wp2
         go_ret
         exact ⟨by first | rfl | (simp; done) | (simp [*]; done), by repeat (first | exact Drawn0.refl _ | apply Drawn0.step)⟩
     · rw [if_neg c6] at H
       have c6b0 : decide (1 ≤ a1) = false := decide_eq_false c6
       clear c6
       obtain rfl := Option.some.inj H
       go_enter Tryz.func155, Tryz.ntmps155
       go_wp2
       go_ret
       exact ⟨by first | rfl | (simp; done) | (simp [*]; done), by repeat (first | exact Drawn0.refl _ | apply Drawn0.step)⟩
   · rw [if_neg c5] at H
     have c5b0 : decide (a0 ≤ 294282) = false := decide_eq_false c5
     clear c5
     obtain rfl := Option.some.inj H
     go_enter Tryz.func155, Tryz.ntmps155
     go_wp2
     go_ret
     exact ⟨by first | rfl | (simp; done) | (simp [*]; done), by repeat (first | exact Drawn0.refl _ | apply Drawn0.step)⟩
 · rw [if_neg c4] at H
   have c4b0 : decide ((-4718) ≤ a0) = false := decide_eq_false c4
   clear c4
   obtain rfl := Option.some.inj H
   go_enter Tryz.func155, Tryz.ntmps155
   go_wp2
   go_ret
   exact ⟨by first | rfl | (simp; done) | (simp [*]; done), by repeat (first | exact Drawn0.refl _ | apply Drawn0.step)⟩
def jI.f (k : Nat) (a0 : Int) (a1 : Int) (a2 : Int) : Option (Int × Int) := (jK.f k a0 a1 a2).bind fun t357 => (if t357 = true then ((kS.f k a0 a1 a2).bind fun t358 => (some (t358, 0))) else (some (0, 10)))
set_option maxHeartbeats 8000000 in
set_option maxRecDepth 100000 in
theorem jI.calls (k : Nat) (a0 : Int) (a1 : Int) (a2 : Int) (r1 : Int) (r2 : Int) (w : World) (h : jI.f k a0 a1 a2 = some (r1, r2)) :
 Calls Tryz.prog 121 #[.int .i64 a0, .int .i64 a1, .int .i64 a2] w fun e w' => e = .returned (.tuple #[.int .i64 r1, .int .i64 r2]) ∧ Drawn0 w w' := by
 have H : ((jK.f k a0 a1 a2).bind fun t357 => (if t357 = true then ((kS.f k a0 a1 a2).bind fun t358 => (some (t358, 0))) else (some (0, 10)))) = some (r1, r2) := h
 clear h
 replace H := Option.bind_eq_some_iff.mp H
 obtain ⟨t357, A40, H⟩ := H
 replace H : (if t357 = true then ((kS.f k a0 a1 a2).bind fun t358 => (some (t358, 0))) else (some (0, 10))) = some (r1, r2) := H
 have A4 := Aside0.mk A40
 clear A40
 by_cases c5 : t357 = true
 · subst c5
   have H1 : ((kS.f k a0 a1 a2).bind fun t358 => (some (t358, 0))) = some (r1, r2) := by rw [if_pos rfl] at H; exact H
   clear H
   have H := H1
   clear H1
   replace H := Option.bind_eq_some_iff.mp H
   obtain ⟨t358, A60, H⟩ := H
   replace H : (some (t358, 0)) = some (r1, r2) := H
   have A6 := Aside0.mk A60
   clear A60
   simp only [Option.some.injEq, Prod.mk.injEq] at H
   obtain ⟨rfl, rfl⟩ := H
   go_enter Tryz.func121, Tryz.ntmps121
   go_wp2_with (first | ((with_reducible refine kU (f := 155) rfl ?_); refine jD (some 11) rfl rfl Tryz.func155 (by kernel_rfl) rfl #[.int .i64 a0, .int .i64 a1, .int .i64 a2] rfl (by (try simp only [List.map_toArray, List.map_cons, List.map_nil]); first | done | rfl | (simp only [List.length_drop, List.length_take]; rfl)) ?_; (with_reducible refine (jK.calls k a0 a1 a2 true _ A4.out).mono ?_); rintro e w' ⟨rfl, ⟨nd, rfl⟩⟩; refine ⟨_, rfl, ?_⟩) | ((with_reducible refine kU (f := 144) rfl ?_); refine jD (some 16) rfl rfl Tryz.func144 (by kernel_rfl) rfl #[.int .i64 a0, .int .i64 a1, .int .i64 a2] rfl (by (try simp only [List.map_toArray, List.map_cons, List.map_nil]); first | done | rfl | (simp only [List.length_drop, List.length_take]; rfl)) ?_; (with_reducible refine (kS.calls k a0 a1 a2 t358 _ A6.out).mono ?_); rintro e w' ⟨rfl, ⟨nd, rfl⟩⟩; refine ⟨_, rfl, ?_⟩))
   go_ret2
   exact ⟨by first | rfl | (simp; done) | (simp [*]; done), by repeat (first | exact Drawn0.refl _ | apply Drawn0.step)⟩
 · replace c5 := Bool.eq_false_iff.mpr c5
   subst c5
   have H1 : (some (0, 10)) = some (r1, r2) := by rw [if_neg (show ¬ (false = true) by decide)] at H; exact H
   clear H
   have H := H1
   clear H1
   simp only [Option.some.injEq, Prod.mk.injEq] at H
   obtain ⟨rfl, rfl⟩ := H
   go_enter Tryz.func121, Tryz.ntmps121
   go_wp2_with (first | ((with_reducible refine kU (f := 155) rfl ?_); refine jD (some 11) rfl rfl Tryz.func155 (by kernel_rfl) rfl #[.int .i64 a0, .int .i64 a1, .int .i64 a2] rfl (by (try simp only [List.map_toArray, List.map_cons, List.map_nil]); first | done | rfl | (simp only [List.length_drop, List.length_take]; rfl)) ?_; (with_reducible refine (jK.calls k a0 a1 a2 false _ A4.out).mono ?_); rintro e w' ⟨rfl, ⟨nd, rfl⟩⟩; refine ⟨_, rfl, ?_⟩))
   go_ret2
   exact ⟨by first | rfl | (simp; done) | (simp [*]; done), by repeat (first | exact Drawn0.refl _ | apply Drawn0.step)⟩
def computusref02_Weekday.f (a0 : Int) : Option (Int) := (kL.f a0 7).bind fun t359 => ((kL.f (wrap64 (t359 + 6)) 7).bind fun t360 => (some t360))
set_option maxHeartbeats 8000000 in
set_option maxRecDepth 100000 in
theorem computusref02_Weekday.calls (a0 : Int) (r : Int) (w : World) (h : computusref02_Weekday.f a0 = some r) :
 Calls Tryz.prog 181 #[.int .i64 a0] w fun e w' => e = .returned (.int .i64 r) ∧ Drawn0 w w' := by
 have H : ((kL.f a0 7).bind fun t359 => ((kL.f (wrap64 (t359 + 6)) 7).bind fun t360 => (some t360))) = some r := h
 clear h
 replace H := Option.bind_eq_some_iff.mp H
 obtain ⟨t359, A20, H⟩ := H
 replace H : ((kL.f (wrap64 (t359 + 6)) 7).bind fun t360 => (some t360)) = some r := H
 have A2 := Aside0.mk A20
 clear A20
 replace H := Option.bind_eq_some_iff.mp H
 obtain ⟨t360, A30, H⟩ := H
 replace H : (some t360) = some r := H
 have A3 := Aside0.mk A30
 clear A30
 obtain rfl := Option.some.inj H
 go_enter Tryz.func181, Tryz.ntmps181
 go_wp2_with (first | ((with_reducible refine kU (f := 141) rfl ?_); refine jD (some 4) rfl rfl Tryz.func141 (by kernel_rfl) rfl #[.int .i64 a0, .int .i64 7] rfl (by (try simp only [List.map_toArray, List.map_cons, List.map_nil]); first | done | rfl | (simp only [List.length_drop, List.length_take]; rfl)) ?_; (with_reducible refine (kL.calls a0 7 t359 _ A2.out).mono ?_); rintro e w' ⟨rfl, ⟨nd, rfl⟩⟩; refine ⟨_, rfl, ?_⟩) | ((with_reducible refine kU (f := 141) rfl ?_); refine jD (some 6) rfl rfl Tryz.func141 (by kernel_rfl) rfl #[.int .i64 (wrap64 (t359 + 6)), .int .i64 7] rfl (by (try simp only [List.map_toArray, List.map_cons, List.map_nil]); first | done | rfl | (simp only [List.length_drop, List.length_take]; rfl)) ?_; (with_reducible refine (kL.calls (wrap64 (t359 + 6)) 7 t360 _ A3.out).mono ?_); rintro e w' ⟨rfl, ⟨nd, rfl⟩⟩; refine ⟨_, rfl, ?_⟩))
 go_ret
 exact ⟨by first | rfl | (simp; done) | (simp [*]; done), by repeat (first | exact Drawn0.refl _ | apply Drawn0.step)⟩
end Go.Proofs.YtimgphlfaninnaaGreat.P
namespace Go.Proofs.YtimgphlfaninnaaGreat.P
open Go.RowKit Go.Proofs.YtimgphlfaninnaaGreatW.PrintWords Go.Proofs.YtimgphlfaninnaaGreatW.PrintLast Go.Proofs.YtimgphlfaninnaaGreatW.PrintMore
set_option linter.unusedVariables false
set_option linter.unusedSimpArgs false
open A in
@[irreducible] def wdP (T : Tab) (g : Nat) (args : List AV) (K : AV → Prop) : Prop := afn PA Tryz.prog T noLoops 10 g args fun u h => nuK h u K
open A in
@[irreducible] def wdV (T : Tab) (g : Nat) (args : List AV) (K : AV → Prop) : Prop := afv PA Tryz.prog T noLoops 10 g args K
end Go.Proofs.YtimgphlfaninnaaGreat.P
namespace Go.Proofs.YtimgphlfaninnaaGreat.Civ
set_option linter.unusedVariables false
set_option linter.unusedSimpArgs false
open Go.RowKit Go.Proofs.YtimgphlfaninnaaGreatW.PrintWords Go.Proofs.YtimgphlfaninnaaGreatW.PrintLast Go.Proofs.YtimgphlfaninnaaGreatW.PrintMore Go.Proofs.YtimgphlfaninnaaGreat.P
theorem u64m (x : Int) : IntKind.u64.wrap x = x % 18446744073709551616 := by simp [IntKind.wrap, IntKind.bits, IntKind.signed]
theorem u64w {x : Int} (h1 : 0 ≤ x) (h2 : x ≤ 18446744073709551615) : IntKind.u64.wrap x = x := by rw [u64m]; omega
theorem wraps_u64 (n : Int) (h₀ : 0 ≤ n) (h₁ : n < 2 ^ 64) : IntKind.u64.wrap n = n := by rw [u64m]; omega
theorem and32 {x : Int} (h1 : 0 ≤ x) (h2 : x ≤ 18446744073709551615) : Go.bits .and .u64 x 4294967295 = x % 4294967296 :=
 bits_mask .u64 64 (by decide) wraps_u64 32 (by decide) x h1 (by omega)
end Go.Proofs.YtimgphlfaninnaaGreat.Civ
