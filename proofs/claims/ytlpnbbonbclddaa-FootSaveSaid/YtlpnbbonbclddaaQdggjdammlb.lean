/- The day of a month, and the instant of a day, as rules say them: when.to, when.Day, fire.Instant; the reference's. -/
import Derived.Test.YtlpnbbonbclddaaQaldloldlgd
namespace Go.Proofs.Ytlpnbbonbclddaa.P
open Go Go.RowKit Go.Proofs.Ytlpnbbonbclddaa.Civ Go.Proofs.Ytlpnbbonbclddaa.Ft
set_option linter.unusedVariables false
set_option linter.unusedSimpArgs false
section
open A
/-- A day, and the next ones, till it is the weekday: so many rounds at most. -/
def goT (wd st : Int) (K : Int → Prop) : Nat → Int → Prop
  | 0, x => False
  | r + 1, x => brc (decide (-9223372036854775808 ≤ x ∧ x ≤ 9223372036854775807)) (∀ m : Int, m = wday x → brc (m != wd) (goT wd st K r (IntKind.wrap .i64 (x + st))) (K x)) False
set_option maxRecDepth 100000 in
theorem to_vc (n wd st : Int) (K : AV → Prop) : AF (tab [(60, ccWk)]) 9 42 [.int .i64 n, .int .i64 wd, .int .i64 st] K = goT wd st (fun x => K (.int .i64 x)) 9 n := by kernel_rfl
theorem goT_ok {wd st n : Int} {K : Int → Prop} (hs : st = 1 ∨ st = -1) (hw : 0 ≤ wd ∧ wd ≤ 6) (hn : -10000000000 ≤ n ∧ n ≤ 10000000000) (hK : K (toF n wd st)) : ∀ (r : Nat) (x : Int) (j : Nat), x = n + j * st → (if st = 1 then (wd - wday n) % 7 else (wday n - wd) % 7) = j + (toF n wd st - x) * st → 0 ≤ (toF n wd st - x) * st → (toF n wd st - x) * st < r → goT wd st K r x := by
  intro r
  induction r with
  | zero => intro x j _ _ h1 h2; omega
  | succ r ih =>
    intro x j hx hj h1 h2
    have hb : 0 ≤ toF n wd st - n + 6 ∧ toF n wd st - n ≤ 6 := by have := toF_bd n wd st; omega
    refine brcT (decide_eq_true ?_) ?_
    · rcases hs with rfl | rfl <;> omega
    rintro _ rfl
    by_cases e : x = toF n wd st
    · subst e
      refine brcF ?_ hK
      have : wday (toF n wd st) = wd := by
        unfold toF wday
        split <;> omega
      rw [this]; simp
    · refine brcT ?_ ?_
      · have : wday x ≠ wd := by
          intro q
          apply e
          unfold toF wday at *
          rcases hs with rfl | rfl
          · simp only [if_true] at *; omega
          · simp only [show ¬ ((-1 : Int) = 1) by omega, if_false] at *; omega
        simpa using this
      · rw [wv (by rcases hs with rfl | rfl <;> omega) (by rcases hs with rfl | rfl <;> omega)]
        refine ih (x + st) (j + 1) ?_ ?_ ?_ ?_
        · rcases hs with rfl | rfl <;> omega
        · rcases hs with rfl | rfl <;> omega
        · rcases hs with rfl | rfl <;> omega
        · rcases hs with rfl | rfl <;> omega
theorem cyTo_ok : COk Try.prog 42 cyTo := af_con (tab_cons ccWk_ok tab_nil) (by kernel_rfl) fun args p v hc hp => by
  unfold cyTo at hc
  split at hc
  case h_2 => cases hc
  rename_i n wd st
  simp only [Option.some.injEq, Prod.mk.injEq] at hc
  obtain ⟨rfl, rfl⟩ := hc
  rw [Bool.and_eq_true] at hp
  obtain ⟨h1, h2, h3, h4⟩ := of_decide_eq_true hp.2
  have h5 : st = 1 ∨ st = -1 := of_decide_eq_true hp.1
  refine ⟨rfl, 9, ?_⟩
  rw [to_vc]
  refine goT_ok (K := fun x => AV.int .i64 x = AV.int .i64 (toF n wd st)) h5 ⟨h3, h4⟩ ⟨h1, h2⟩ rfl 9 n 0 (by omega) ?_ ?_ ?_
  · unfold toF; rcases h5 with rfl | rfl
    · simp only [if_true]; omega
    · simp only [show ¬ ((-1 : Int) = 1) by omega, if_false]; omega
  · unfold toF; rcases h5 with rfl | rfl
    · simp only [if_true]; omega
    · simp only [show ¬ ((-1 : Int) = 1) by omega, if_false]; omega
  · unfold toF; rcases h5 with rfl | rfl
    · simp only [if_true]; omega
    · simp only [show ¬ ((-1 : Int) = 1) by omega, if_false]; omega
theorem first_ok {y m : Int} (h1 : -4718 < y) (h2 : y < 294282) (h3 : 1 ≤ m) (h4 : m ≤ 12) : DateOk y m 1 ∧ -3000000 ≤ dnum y m 1 ∧ dnum y m 1 ≤ 110000000 := by
  have a := mlen_bd y m h3 h4
  have b := cum_top (y := y) h3 h4
  refine ⟨⟨by omega, by omega, h3, h4, by omega, by omega⟩, ?_⟩
  unfold dnum dby
  omega
set_option maxRecDepth 100000 in
theorem day0_vc (y m w n : Int) (K : AV → Prop) : AF (tab [(42, cyTo), (41, ccDays), (43, ccLen)]) 6 30 [.int .i64 y, .int .i64 m, .agg [.int .i64 0, .int .i64 w, .int .i64 n]] K =
    (brc (w == 0) (brc (decide (n ≥ 1)) (brc (!decide (n ≤ 31)) (K (AV.tup [AV.int IntKind.i64 0, AV.int IntKind.i64 1])) (brc (decide (m < 1)) (K (AV.tup [AV.int IntKind.i64 0, AV.int IntKind.i64 1])) (brc (decide (m > 12)) (K (AV.tup [AV.int IntKind.i64 0, AV.int IntKind.i64 1])) (brc (decide (y ≤ -4718)) (K (AV.tup [AV.int IntKind.i64 0, AV.int IntKind.i64 10])) (brc (decide (y ≥ 294282)) (K (AV.tup [AV.int IntKind.i64 0, AV.int IntKind.i64 10])) (∀ (m0 : Int), (m0 = if DateOk y m 1 then dnum y m 1 else 0) → ∀ (m1 : Int), (m1 = if DateOk y m 1 then 0 else 10) → K (AV.tup [AV.int IntKind.i64 (IntKind.wrap IntKind.i64 (IntKind.wrap IntKind.i64 (m0 + n) - 1)), AV.int IntKind.i64 0]))))))) (K (AV.tup [AV.int IntKind.i64 0, AV.int IntKind.i64 1]))) (K (AV.tup [AV.int IntKind.i64 0, AV.int IntKind.i64 1]))) := by kernel_rfl
set_option maxRecDepth 100000 in
theorem day1_vc (y m w n : Int) (K : AV → Prop) : AF (tab [(42, cyTo), (41, ccDays), (43, ccLen)]) 6 30 [.int .i64 y, .int .i64 m, .agg [.int .i64 1, .int .i64 w, .int .i64 n]] K =
    (brc (n == 0) (brc (decide (w ≥ 0)) (brc (!decide (w ≤ 6)) (K (AV.tup [AV.int IntKind.i64 0, AV.int IntKind.i64 1])) (brc (decide (m < 1)) (K (AV.tup [AV.int IntKind.i64 0, AV.int IntKind.i64 1])) (brc (decide (m > 12)) (K (AV.tup [AV.int IntKind.i64 0, AV.int IntKind.i64 1])) (brc (decide (y ≤ -4718)) (K (AV.tup [AV.int IntKind.i64 0, AV.int IntKind.i64 10])) (brc (decide (y ≥ 294282)) (K (AV.tup [AV.int IntKind.i64 0, AV.int IntKind.i64 10])) (∀ (m0 : Int), (m0 = if DateOk y m 1 then dnum y m 1 else 0) → ∀ (m1 : Int), (m1 = if DateOk y m 1 then 0 else 10) → ∀ (m2 : Int), m2 = mlen y m → brc (true && decide (-10000000000 ≤ IntKind.wrap IntKind.i64 (IntKind.wrap IntKind.i64 (m0 + m2) - 1) ∧ IntKind.wrap IntKind.i64 (IntKind.wrap IntKind.i64 (m0 + m2) - 1) ≤ 10000000000 ∧ 0 ≤ w ∧ w ≤ 6)) (∀ (m3 : Int), m3 = toF (IntKind.wrap IntKind.i64 (IntKind.wrap IntKind.i64 (m0 + m2) - 1)) w (-1) → K (AV.tup [AV.int IntKind.i64 m3, AV.int IntKind.i64 0])) False)))))) (K (AV.tup [AV.int IntKind.i64 0, AV.int IntKind.i64 1]))) (K (AV.tup [AV.int IntKind.i64 0, AV.int IntKind.i64 1]))) := by kernel_rfl
set_option maxRecDepth 100000 in
theorem day2_vc (y m w n : Int) (K : AV → Prop) : AF (tab [(42, cyTo), (41, ccDays), (43, ccLen)]) 6 30 [.int .i64 y, .int .i64 m, .agg [.int .i64 2, .int .i64 w, .int .i64 n]] K =
    (brc (decide (w ≥ 0)) (brc (decide (w ≤ 6)) (brc (decide (n ≥ 1)) (brc (!decide (n ≤ 31)) (K (AV.tup [AV.int IntKind.i64 0, AV.int IntKind.i64 1])) (brc (decide (m < 1)) (K (AV.tup [AV.int IntKind.i64 0, AV.int IntKind.i64 1])) (brc (decide (m > 12)) (K (AV.tup [AV.int IntKind.i64 0, AV.int IntKind.i64 1])) (brc (decide (y ≤ -4718)) (K (AV.tup [AV.int IntKind.i64 0, AV.int IntKind.i64 10])) (brc (decide (y ≥ 294282)) (K (AV.tup [AV.int IntKind.i64 0, AV.int IntKind.i64 10])) (∀ (m0 : Int), (m0 = if DateOk y m 1 then dnum y m 1 else 0) → ∀ (m1 : Int), (m1 = if DateOk y m 1 then 0 else 10) → brc (true && decide (-10000000000 ≤ IntKind.wrap IntKind.i64 (IntKind.wrap IntKind.i64 (m0 + n) - 1) ∧ IntKind.wrap IntKind.i64 (IntKind.wrap IntKind.i64 (m0 + n) - 1) ≤ 10000000000 ∧ 0 ≤ w ∧ w ≤ 6)) (∀ (m2 : Int), m2 = toF (IntKind.wrap IntKind.i64 (IntKind.wrap IntKind.i64 (m0 + n) - 1)) w 1 → K (AV.tup [AV.int IntKind.i64 m2, AV.int IntKind.i64 0])) False)))))) (K (AV.tup [AV.int IntKind.i64 0, AV.int IntKind.i64 1]))) (K (AV.tup [AV.int IntKind.i64 0, AV.int IntKind.i64 1]))) (K (AV.tup [AV.int IntKind.i64 0, AV.int IntKind.i64 1]))) := by kernel_rfl
set_option maxRecDepth 100000 in
theorem day3_vc (y m w n : Int) (K : AV → Prop) : AF (tab [(42, cyTo), (41, ccDays), (43, ccLen)]) 6 30 [.int .i64 y, .int .i64 m, .agg [.int .i64 3, .int .i64 w, .int .i64 n]] K =
    (brc (decide (w ≥ 0)) (brc (decide (w ≤ 6)) (brc (decide (n ≥ 1)) (brc (!decide (n ≤ 31)) (K (AV.tup [AV.int IntKind.i64 0, AV.int IntKind.i64 1])) (brc (decide (m < 1)) (K (AV.tup [AV.int IntKind.i64 0, AV.int IntKind.i64 1])) (brc (decide (m > 12)) (K (AV.tup [AV.int IntKind.i64 0, AV.int IntKind.i64 1])) (brc (decide (y ≤ -4718)) (K (AV.tup [AV.int IntKind.i64 0, AV.int IntKind.i64 10])) (brc (decide (y ≥ 294282)) (K (AV.tup [AV.int IntKind.i64 0, AV.int IntKind.i64 10])) (∀ (m0 : Int), (m0 = if DateOk y m 1 then dnum y m 1 else 0) → ∀ (m1 : Int), (m1 = if DateOk y m 1 then 0 else 10) → brc (true && decide (-10000000000 ≤ IntKind.wrap IntKind.i64 (IntKind.wrap IntKind.i64 (m0 + n) - 1) ∧ IntKind.wrap IntKind.i64 (IntKind.wrap IntKind.i64 (m0 + n) - 1) ≤ 10000000000 ∧ 0 ≤ w ∧ w ≤ 6)) (∀ (m2 : Int), m2 = toF (IntKind.wrap IntKind.i64 (IntKind.wrap IntKind.i64 (m0 + n) - 1)) w (-1) → K (AV.tup [AV.int IntKind.i64 m2, AV.int IntKind.i64 0])) False)))))) (K (AV.tup [AV.int IntKind.i64 0, AV.int IntKind.i64 1]))) (K (AV.tup [AV.int IntKind.i64 0, AV.int IntKind.i64 1]))) (K (AV.tup [AV.int IntKind.i64 0, AV.int IntKind.i64 1]))) := by kernel_rfl
set_option maxRecDepth 100000 in
theorem cyDay_ok : COk Try.prog 30 cyDay := af_con (tab_cons cyTo_ok (tab_cons ccDays_ok (tab_cons ccLen_ok tab_nil))) (by kernel_rfl) fun args p v hc hp => by
  unfold cyDay at hc
  split at hc
  case h_2 => cases hc
  rename_i y m k w n
  simp only [Option.some.injEq, Prod.mk.injEq] at hc
  obtain ⟨rfl, rfl⟩ := hc
  obtain ⟨h1, h2, h3, h4, h5⟩ := of_decide_eq_true hp
  obtain ⟨f1, f2, f3⟩ := first_ok h1 h2 h3 h4
  have hl := mlen_bd y m h3 h4
  refine ⟨rfl, 6, ?_⟩
  rcases h5 with ⟨rfl, rfl, h6, h7⟩ | ⟨rfl, rfl, h6, h7⟩ | ⟨rfl | rfl, h6, h7, h8, h9⟩
  · rw [day0_vc]
    simp only [f1, if_true]
    repeat first
      | (rintro _ rfl)
      | ((with_reducible refine brcT ?_ ?_); focus (first | exact decide_eq_true (by omega) | (simp only [decide_eq_true_eq, decide_eq_false_iff_not, Bool.not_eq_true', Bool.not_eq_false', beq_iff_eq, beq_eq_false_iff_ne, bne_iff_ne, bne_eq_false_iff_eq, ne_eq, Bool.and_eq_true, Bool.and_eq_false_iff, Bool.true_and]; omega) | rfl))
      | ((with_reducible refine brcF ?_ ?_); focus (first | exact decide_eq_false (by omega) | (simp only [decide_eq_true_eq, decide_eq_false_iff_not, Bool.not_eq_true', Bool.not_eq_false', beq_iff_eq, beq_eq_false_iff_ne, bne_iff_ne, bne_eq_false_iff_eq, ne_eq, Bool.and_eq_true, Bool.and_eq_false_iff, Bool.true_and]; omega) | rfl))
      | (rw [wv (x := dnum y m 1 + n) (by omega) (by omega), wv (x := dnum y m 1 + n - 1) (by omega) (by omega)])
      | (rw [wv (x := dnum y m 1 + mlen y m) (by omega) (by omega), wv (x := dnum y m 1 + mlen y m - 1) (by omega) (by omega)])
    unfold dayOn
    simp
  · rw [day1_vc]
    simp only [f1, if_true]
    repeat first
      | (rintro _ rfl)
      | ((with_reducible refine brcT ?_ ?_); focus (first | exact decide_eq_true (by omega) | (simp only [decide_eq_true_eq, decide_eq_false_iff_not, Bool.not_eq_true', Bool.not_eq_false', beq_iff_eq, beq_eq_false_iff_ne, bne_iff_ne, bne_eq_false_iff_eq, ne_eq, Bool.and_eq_true, Bool.and_eq_false_iff, Bool.true_and]; omega) | rfl))
      | ((with_reducible refine brcF ?_ ?_); focus (first | exact decide_eq_false (by omega) | (simp only [decide_eq_true_eq, decide_eq_false_iff_not, Bool.not_eq_true', Bool.not_eq_false', beq_iff_eq, beq_eq_false_iff_ne, bne_iff_ne, bne_eq_false_iff_eq, ne_eq, Bool.and_eq_true, Bool.and_eq_false_iff, Bool.true_and]; omega) | rfl))
      | (rw [wv (x := dnum y m 1 + n) (by omega) (by omega), wv (x := dnum y m 1 + n - 1) (by omega) (by omega)])
      | (rw [wv (x := dnum y m 1 + mlen y m) (by omega) (by omega), wv (x := dnum y m 1 + mlen y m - 1) (by omega) (by omega)])
    unfold dayOn
    simp
  · rw [day2_vc]
    simp only [f1, if_true]
    repeat first
      | (rintro _ rfl)
      | ((with_reducible refine brcT ?_ ?_); focus (first | exact decide_eq_true (by omega) | (simp only [decide_eq_true_eq, decide_eq_false_iff_not, Bool.not_eq_true', Bool.not_eq_false', beq_iff_eq, beq_eq_false_iff_ne, bne_iff_ne, bne_eq_false_iff_eq, ne_eq, Bool.and_eq_true, Bool.and_eq_false_iff, Bool.true_and]; omega) | rfl))
      | ((with_reducible refine brcF ?_ ?_); focus (first | exact decide_eq_false (by omega) | (simp only [decide_eq_true_eq, decide_eq_false_iff_not, Bool.not_eq_true', Bool.not_eq_false', beq_iff_eq, beq_eq_false_iff_ne, bne_iff_ne, bne_eq_false_iff_eq, ne_eq, Bool.and_eq_true, Bool.and_eq_false_iff, Bool.true_and]; omega) | rfl))
      | (rw [wv (x := dnum y m 1 + n) (by omega) (by omega), wv (x := dnum y m 1 + n - 1) (by omega) (by omega)])
      | (rw [wv (x := dnum y m 1 + mlen y m) (by omega) (by omega), wv (x := dnum y m 1 + mlen y m - 1) (by omega) (by omega)])
    unfold dayOn
    simp
  · rw [day3_vc]
    simp only [f1, if_true]
    repeat first
      | (rintro _ rfl)
      | ((with_reducible refine brcT ?_ ?_); focus (first | exact decide_eq_true (by omega) | (simp only [decide_eq_true_eq, decide_eq_false_iff_not, Bool.not_eq_true', Bool.not_eq_false', beq_iff_eq, beq_eq_false_iff_ne, bne_iff_ne, bne_eq_false_iff_eq, ne_eq, Bool.and_eq_true, Bool.and_eq_false_iff, Bool.true_and]; omega) | rfl))
      | ((with_reducible refine brcF ?_ ?_); focus (first | exact decide_eq_false (by omega) | (simp only [decide_eq_true_eq, decide_eq_false_iff_not, Bool.not_eq_true', Bool.not_eq_false', beq_iff_eq, beq_eq_false_iff_ne, bne_iff_ne, bne_eq_false_iff_eq, ne_eq, Bool.and_eq_true, Bool.and_eq_false_iff, Bool.true_and]; omega) | rfl))
      | (rw [wv (x := dnum y m 1 + n) (by omega) (by omega), wv (x := dnum y m 1 + n - 1) (by omega) (by omega)])
      | (rw [wv (x := dnum y m 1 + mlen y m) (by omega) (by omega), wv (x := dnum y m 1 + mlen y m - 1) (by omega) (by omega)])
    unfold dayOn
    simp
/-- The same of the reference: seven rounds at most. -/
def goD (wd : Int) (f : Int → Int) (K : Int → Prop) : Nat → Int → Prop
  | 0, x => K x
  | r + 1, x => brc (decide (-9223372036854775808 ≤ x ∧ x ≤ 9223372036854775807)) (∀ m : Int, m = wday x → brc (m != wd) (goD wd f K r (IntKind.wrap .i64 (f x))) (K x)) False
theorem goD_up {wd n : Int} {K : Int → Prop} (hw : 0 ≤ wd ∧ wd ≤ 6) (hn : -10000000000 ≤ n ∧ n ≤ 10000000000) (hK : K (toF n wd 1)) : ∀ (r : Nat) (x : Int), n ≤ x → x ≤ toF n wd 1 → toF n wd 1 - x ≤ r → goD wd (fun x => x + 1) K r x := by
  intro r
  induction r with
  | zero =>
    intro x h1 h2 h3
    rw [show x = toF n wd 1 by omega]; exact hK
  | succ r ih =>
    intro x h1 h2 h3
    have hb := toF_bd n wd 1
    refine brcT (decide_eq_true (by omega)) ?_
    rintro _ rfl
    by_cases e : x = toF n wd 1
    · subst e
      refine brcF ?_ hK
      have : wday (toF n wd 1) = wd := by unfold toF wday; simp only [if_true]; omega
      rw [this]; simp
    · refine brcT ?_ ?_
      · have : wday x ≠ wd := by
          intro q; apply e; unfold toF wday at *; simp only [if_true] at *; omega
        simpa using this
      · show goD wd _ K r (IntKind.wrap .i64 (x + 1))
        rw [wv (by omega) (by omega)]
        exact ih (x + 1) (by omega) (by omega) (by omega)
theorem goD_down {wd n : Int} {K : Int → Prop} (hw : 0 ≤ wd ∧ wd ≤ 6) (hn : -10000000000 ≤ n ∧ n ≤ 10000000000) (hK : K (toF n wd (-1))) : ∀ (r : Nat) (x : Int), x ≤ n → toF n wd (-1) ≤ x → x - toF n wd (-1) ≤ r → goD wd (fun x => x - 1) K r x := by
  intro r
  induction r with
  | zero =>
    intro x h1 h2 h3
    rw [show x = toF n wd (-1) by omega]; exact hK
  | succ r ih =>
    intro x h1 h2 h3
    have hb := toF_bd n wd (-1)
    refine brcT (decide_eq_true (by omega)) ?_
    rintro _ rfl
    by_cases e : x = toF n wd (-1)
    · subst e
      refine brcF ?_ hK
      have : wday (toF n wd (-1)) = wd := by unfold toF wday; simp only [show ¬ ((-1 : Int) = 1) by omega, if_false]; omega
      rw [this]; simp
    · refine brcT ?_ ?_
      · have : wday x ≠ wd := by
          intro q; apply e; unfold toF wday at *; simp only [show ¬ ((-1 : Int) = 1) by omega, if_false] at *; omega
        simpa using this
      · show goD wd _ K r (IntKind.wrap .i64 (x - 1))
        rw [wv (by omega) (by omega)]
        exact ih (x - 1) (by omega) (by omega) (by omega)
end
end Go.Proofs.Ytlpnbbonbclddaa.P
