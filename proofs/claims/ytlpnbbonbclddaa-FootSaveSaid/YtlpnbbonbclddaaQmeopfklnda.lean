/- What the functions of the reference of package civil answer, told of dates' days. -/
import Derived.Test.YtlpnbbonbclddaaQddohnjcahl
import Derived.Test.YtlpnbbonbclddaaQogbdjaeeap
import Derived.Test.YtlpnbbonbclddaaQbdbfnlbcim
import Derived.Test.YtlpnbbonbclddaaQjdcnbjmghn
import Derived.Test.YtlpnbbonbclddaaQljbbhhpdkl
import Derived.Test.YtlpnbbonbclddaaQmmdnjbieia
import Derived.Test.YtlpnbbonbclddaaQeldondhjdn
import Derived.Test.YtlpnbbonbclddaaQhbelkoaemm
import Derived.Test.YtlpnbbonbclddaaQjmofcepakh
import Derived.Test.YtlpnbbonbclddaaQbbmlejlogb
import Derived.Test.YtlpnbbonbclddaaQncocjfpffk
namespace Go.Proofs.Ytlpnbbonbclddaa.Civ
set_option linter.unusedVariables false
set_option linter.unusedSimpArgs false
open Go.RowKit Go.Proofs.YtlpnbbonbclddaaW.PrintWords Go.Proofs.YtlpnbbonbclddaaW.PrintLast Go.Proofs.YtlpnbbonbclddaaW.PrintMore Go.Proofs.Ytlpnbbonbclddaa.P
theorem rmod_eq (a b : Int) (hb : 0 < b) (hb2 : b ≤ 4611686018427387904) : computusref02_mod.f a b = some (a % b) := by
  have c := cut_floor a (b := b) (by omega)
  have h1 := Int.emod_nonneg a (b := b) (by omega)
  have h2 := Int.emod_lt_of_pos a (b := b) (by omega)
  unfold computusref02_mod.f
  rw [if_neg (by omega)]
  by_cases h : Int.tmod a b < 0
  · obtain ⟨c1, c2, _⟩ := c.1 h
    rw [if_pos h, c2, w64 (by omega) (by omega)]
    congr 1; omega
  · obtain ⟨c1, c2⟩ := c.2 h
    rw [if_neg h, c2]
theorem rdiv_eq (a b : Int) (ha : I64 a) (hb : 1 < b) (hb2 : b ≤ 4611686018427387904) : computusref02_div.f a b = some (a / b) := by
  have e := floor_eq a b ha hb hb2
  unfold civil_floor.f at e
  unfold computusref02_div.f
  rw [if_neg (by omega)] at e ⊢
  by_cases h : Int.tmod a b < 0
  · rw [if_pos h] at e ⊢; injection e with e; injection e with e1 _; rw [e1]
  · rw [if_neg h] at e ⊢; injection e with e; injection e with e1 _; rw [e1]
theorem rleap_eq (y : Int) : computusref02_Leap.f y = some (decide (lp y = 1)) := by
  unfold computusref02_Leap.f
  rw [rmod_eq _ _ (by omega) (by omega), rmod_eq _ _ (by omega) (by omega), rmod_eq _ _ (by omega) (by omega)]
  simp only [Option.bind_some]
  have e : (y % 400 == 0) = decide (y % 400 = 0) := rfl
  rw [e]
  unfold lp
  by_cases h1 : y % 4 = 0
  · rw [if_pos h1]
    by_cases h2 : y % 100 = 0
    · rw [if_pos h2]
      by_cases h3 : y % 400 = 0 <;> simp [h1, h2, h3]
    · rw [if_neg h2]; simp [h1, h2]
  · rw [if_neg h1]; simp [h1]
theorem rlen_eq (k : Nat) (y m : Int) : computusref02_Len.f (k + 2) y m = some (mlen y m) := by
  have hl := lp_01 y
  by_cases h : m < 1 ∨ 12 < m
  · rw [mlen_out y m h]
    unfold computusref02_Len.f
    rw [if_neg (by omega), if_neg (by omega), if_neg (by omega), if_neg (by omega), if_neg (by omega), if_neg (by omega), beq_eq_false_iff_ne.2 (by omega : m ≠ 12)]
    simp only [computusref02_Len.j0]
    rw [if_neg (by simp), if_neg (by omega), if_neg (by omega), if_neg (by omega), beq_eq_false_iff_ne.2 (by omega : m ≠ 11)]
    simp only [computusref02_Len.j1]
    rw [if_neg (by simp), if_neg (by omega)]
  · rcases twelve (m := m) (by omega) (by omega) with e | e | e | e | e | e | e | e | e | e | e | e <;> subst e <;> simp [computusref02_Len.f, computusref02_Len.j0, computusref02_Len.j1, mlen, rleap_eq]
    by_cases h3 : lp y = 1
    · rw [if_pos h3, h3]; rfl
    · rw [if_neg h3, show lp y = 0 by omega]; rfl
theorem rlen_ev (y m : Int) : Ev (fun k => computusref02_Len.f k y m) (mlen y m) := Ev.at2 fun k => rlen_eq k y m
theorem rright_eq (k : Nat) (y m d : Int) : computusref02_Right.f (k + 2) y m d = some (decide (DateOk y m d)) := by
  unfold computusref02_Right.f
  rw [rlen_eq]
  by_cases h1 : y ≥ -4718
  · rw [if_pos h1]
    by_cases h2 : y ≤ 294282
    · rw [if_pos h2]
      by_cases h4 : m ≥ 1
      · rw [if_pos h4]
        by_cases h5 : m ≤ 12
        · rw [if_pos h5]
          by_cases h3 : d ≥ 1
          · rw [if_pos h3]
            simp only [Option.bind_some]
            congr 1
            apply decide_eq_decide.2
            unfold DateOk
            omega
          · rw [if_neg h3, decide_eq_false (by unfold DateOk; omega)]
        · rw [if_neg h5, decide_eq_false (by unfold DateOk; omega)]
      · rw [if_neg h4, decide_eq_false (by unfold DateOk; omega)]
    · rw [if_neg h2, decide_eq_false (by unfold DateOk; omega)]
  · rw [if_neg h1, decide_eq_false (by unfold DateOk; omega)]
theorem rright_ev (y m d : Int) : Ev (fun k => computusref02_Right.f k y m d) (decide (DateOk y m d)) := Ev.at2 fun k => rright_eq k y m d
theorem rstart_loop (y : Int) (hy : -100000000 ≤ y ∧ y ≤ 100000000) (d : Nat) : ∀ i n : Int, 0 ≤ i → i ≤ (y - 2000) % 400 → (y - 2000) % 400 - i = d → n = dby (2000 + i) + 146097 * ((y - 2000) / 400) →
    Ev (fun k => computusref02_start.l0 k y n i) (dby y) := by
  induction d with
  | zero =>
    intro i n h0 h1 hd hn
    refine Ev.at1 fun k => ?_
    simp only [computusref02_start.l0]
    rw [w64 (by omega) (by omega), rmod_eq _ _ (by omega) (by omega)]
    simp only [Option.bind_some]
    rw [if_neg (by omega)]
    congr 1
    rw [hn, ← dby_era, show 2000 + i + 400 * ((y - 2000) / 400) = y by omega]
  | succ d ih =>
    intro i n h0 h1 hd hn
    have hs := dby_succ (2000 + i)
    have hb : -1000000 ≤ dby (2000 + i) ∧ dby (2000 + i) ≤ 1000000 := by
      have a := dby_far 2000 (2000 + i) (by omega)
      have b := dby_near 2000 (2000 + i) (by omega)
      have c : dby 2000 = 0 := by decide
      omega
    have hl := lp_01 (2000 + i)
    refine Ev.step (f := fun k => computusref02_start.l0 k y (n + 365 + lp (2000 + i)) (i + 1)) (fun k => ?_) (ih (i + 1) _ (by omega) (by omega) (by omega) ?_)
    · simp only [computusref02_start.l0]
      rw [w64 (x := y - 2000) (by omega) (by omega), rmod_eq _ _ (by omega) (by omega)]
      simp only [Option.bind_some]
      rw [if_pos (by omega), w64 (x := 2000 + i) (by omega) (by omega), rleap_eq]
      simp only [Option.bind_some, decide_eq_true_eq]
      rw [w64 (x := i + 1) (by omega) (by omega), w64 (x := n + 365) (by omega) (by omega)]
      by_cases hp : lp (2000 + i) = 1
      · rw [if_pos hp, w64 (by omega) (by omega), hp]
      · rw [if_neg hp, show lp (2000 + i) = 0 by omega, Int.add_zero]
    · rw [show 2000 + (i + 1) = 2000 + i + 1 by omega, hs]; omega
theorem rstart_ev (y : Int) (hy : -100000000 ≤ y ∧ y ≤ 100000000) : Ev (fun k => computusref02_start.f k y) (dby y) := by
  unfold computusref02_start.f
  rw [w64 (by omega) (by omega), rdiv_eq _ _ (by unfold I64; omega) (by omega) (by omega)]
  simp only [Option.bind_some]
  refine rstart_loop y hy ((y - 2000) % 400).toNat 0 _ (by omega) (by omega) (by omega) ?_
  rw [w64 (by omega) (by omega)]
  have c : dby (2000 + 0) = 0 := by decide
  omega
theorem rday_loop (y m : Int) (hm : m ≤ 12) (d : Nat) : ∀ i n : Int, 1 ≤ i → i ≤ m → m - i = d → -1000000000000 ≤ n ∧ n ≤ 1000000000000 + 31 * i →
    Ev (fun k => computusref02_day.l0 k y m n i) (n + cum y m - cum y i) := by
  induction d with
  | zero =>
    intro i n h0 h1 hd hn
    refine Ev.at1 fun k => ?_
    simp only [computusref02_day.l0]
    rw [if_neg (by omega)]
    congr 1
    have : i = m := by omega
    subst this; omega
  | succ d ih =>
    intro i n h0 h1 hd hn
    have hc := cum_succ y i h0 (by omega)
    have hl := mlen_bd y i h0 (by omega)
    refine Ev.step (f := fun k => (computusref02_Len.f k y i).bind fun t => computusref02_day.l0 k y m (wrap64 (n + t)) (wrap64 (i + 1))) (fun k => ?_) (Ev.bind (rlen_ev y i) ?_)
    · simp only [computusref02_day.l0]
      rw [if_pos (by omega)]
    · rw [w64 (x := n + mlen y i) (by omega) (by omega), w64 (x := i + 1) (by omega) (by omega)]
      exact Ev.cast (ih (i + 1) _ (by omega) (by omega) (by omega) (by omega)) (by omega)
theorem dby_bd (y : Int) (hy : -100000000 ≤ y ∧ y ≤ 100000000) : -40000000000 ≤ dby y ∧ dby y ≤ 40000000000 := by
  have c : dby 2000 = 0 := by decide
  rcases Int.le_total y 2000 with h | h
  · have a := dby_far y 2000 h
    have b := dby_near y 2000 h
    omega
  · have a := dby_far 2000 y h
    have b := dby_near 2000 y h
    omega
theorem rday_ev (y m d : Int) (hy : -100000000 ≤ y ∧ y ≤ 100000000) (h1 : 1 ≤ m) (h2 : m ≤ 12) (hd : -1000 ≤ d ∧ d ≤ 1000) : Ev (fun k => computusref02_day.f k y m d) (dnum y m d) := by
  have hb := dby_bd y hy
  unfold computusref02_day.f
  refine Ev.bind (rstart_ev y hy) ?_
  rw [w64 (x := dby y + d) (by omega) (by omega), w64 (by omega) (by omega)]
  refine Ev.cast (rday_loop y m h2 (m - 1).toNat 1 _ (by omega) (by omega) (by omega) (by omega)) ?_
  unfold dnum
  rw [cum_one]; omega
theorem rfirst_ev : Ev (fun k => computusref02_First.f k) (-2453698) := by
  unfold computusref02_First.f
  exact Ev.bind (rday_ev _ _ _ (by omega) (by omega) (by omega) (by omega)) (Ev.now _)
theorem rlast_ev : Ev (fun k => computusref02_Last.f k) 106754173 := by
  unfold computusref02_Last.f
  exact Ev.bind (rday_ev _ _ _ (by omega) (by omega) (by omega) (by omega)) (Ev.now _)
theorem rcan_ev (n : Int) : Ev (fun k => computusref02_Can.f k n) (decide (CanDay n)) := by
  unfold computusref02_Can.f
  refine Ev.bind rfirst_ev ?_
  by_cases h : n ≥ -2453698
  · simp only [if_pos h]
    refine Ev.bind rlast_ev ?_
    have e : decide (n ≤ 106754173) = decide (CanDay n) := decide_eq_decide.2 (by unfold CanDay; omega)
    rw [e]; exact Ev.now _
  · simp only [if_neg h]
    rw [decide_eq_false (by unfold CanDay; omega : ¬ CanDay n)]; exact Ev.now _
theorem rdays_ev (y m d : Int) : Ev (fun k => computusref02_Days.f k y m d) (if DateOk y m d then (dnum y m d, 0) else (0, 10)) := by
  unfold computusref02_Days.f
  refine Ev.bind (rright_ev y m d) ?_
  simp only [decide_eq_true_eq]
  by_cases h : DateOk y m d
  · simp only [if_pos h]
    have hl := mlen_up y m
    unfold DateOk at h
    exact Ev.bind (rday_ev y m d (by omega) (by omega) (by omega) (by omega)) (Ev.now _)
  · simp only [if_neg h]; exact Ev.now _
theorem rdate_months (y : Int) (left : Int) (m d : Int) (h12 : m ≤ 12) (hd0 : 1 ≤ d) (hd1 : d ≤ mlen y m) (j : Nat) : ∀ i l : Int, 1 ≤ i → i ≤ m → m - i = j → l = cum y m + d - 1 - cum y i →
    Ev (fun k => computusref02_Date.l1 k y l i) (y, m, d, 0) := by
  induction j with
  | zero =>
    intro i l h0 h1 hj hl
    have e : i = m := by omega
    subst e
    refine Ev.step (f := fun k => (computusref02_Len.f k y i).bind fun t => if l ≥ t then (computusref02_Len.f k y i).bind fun t' => computusref02_Date.l1 k y (wrap64 (l - t')) (wrap64 (i + 1)) else some (y, i, wrap64 (l + 1), 0)) (fun k => by simp only [computusref02_Date.l1]) (Ev.bind (rlen_ev y i) ?_)
    have hb := mlen_bd y i h0 h12
    simp only [if_neg (show ¬ l ≥ mlen y i by omega)]
    rw [w64 (by omega) (by omega), show l + 1 = d by omega]
    exact Ev.now _
  | succ j ih =>
    intro i l h0 h1 hj hl
    have hb := mlen_bd y i h0 (by omega)
    have hb2 := mlen_bd y m (by omega) h12
    have hcm := cum_bd y m (by omega) h12
    have hci := cum_bd y i h0 (by omega)
    have hlp := lp_01 y
    have hst := cum_step y i m h0 (by omega) h12
    have hs := cum_succ y i h0 (by omega)
    refine Ev.step (f := fun k => (computusref02_Len.f k y i).bind fun t => if l ≥ t then (computusref02_Len.f k y i).bind fun t' => computusref02_Date.l1 k y (wrap64 (l - t')) (wrap64 (i + 1)) else some (y, i, wrap64 (l + 1), 0)) (fun k => by simp only [computusref02_Date.l1]) (Ev.bind (rlen_ev y i) ?_)
    simp only [if_pos (show l ≥ mlen y i by omega)]
    refine Ev.bind (rlen_ev y i) ?_
    rw [w64 (x := l - mlen y i) (by omega) (by omega), w64 (x := i + 1) (by omega) (by omega)]
    exact ih (i + 1) _ (by omega) (by omega) (by omega) (by omega)
theorem rdate_years {n y m d : Int} (h : IsDate n y m d) (hy : -100000000 ≤ y ∧ y ≤ 100000000) (j : Nat) : ∀ i l : Int, i ≤ y → -200000000 ≤ i → y - i = j → dby i + l = n → l ≤ 10000000 →
    Ev (fun k => computusref02_Date.l0 k i l) (y, m, d, 0) := by
  have hh := h.year
  have hs := dby_succ y
  have hl := lp_01 y
  have hm := h.m1
  have hm2 := h.m12
  have hnum := h.num
  unfold dnum at hnum
  have hcm := cum_bd y m hm hm2
  induction j with
  | zero =>
    intro i l h0 h00 hj hn hle
    have e : i = y := by omega
    subst e
    refine Ev.step (f := fun k => computusref02_Date.j1 k i l) (fun k => ?_) (Ev.step (f := fun k => computusref02_Date.l1 k i l 1) (fun k => by simp only [computusref02_Date.j1]) (rdate_months i l m d hm2 h.d1 h.dl (m - 1).toNat 1 l (by omega) hm (by omega) (by rw [cum_one]; omega)))
    simp only [computusref02_Date.l0]
    rw [rleap_eq]
    simp only [Option.bind_some, decide_eq_true_eq]
    by_cases hp : lp i = 1
    · rw [if_pos hp, if_pos (by omega)]
    · rw [if_neg hp, if_pos (by omega)]
  | succ j ih =>
    intro i l h0 h00 hj hn hle
    have hsi := dby_succ i
    have hli := lp_01 i
    have hf := dby_far (i + 1) y (by omega)
    refine Ev.step (f := fun k => computusref02_Date.l0 k (i + 1) (l - 365 - lp i)) (fun k => ?_) (ih (i + 1) _ (by omega) (by omega) (by omega) (by omega) (by omega))
    simp only [computusref02_Date.l0]
    rw [rleap_eq]
    simp only [Option.bind_some, decide_eq_true_eq]
    by_cases hp : lp i = 1
    · rw [if_pos hp, if_neg (by omega), w64 (x := i + 1) (by omega) (by omega), w64 (x := l - 366) (by omega) (by omega), show l - 366 = l - 365 - lp i by omega]
    · rw [if_neg hp, if_neg (by omega), w64 (x := i + 1) (by omega) (by omega), w64 (x := l - 365) (by omega) (by omega), show lp i = 0 by omega, Int.sub_zero]
theorem rdate_ev {n y m d : Int} (h : IsDate n y m d) (hc : CanDay n) : Ev (fun k => computusref02_Date.f k n) (y, m, d, 0) := by
  have hy := (can_of_year h).1 hc
  have hyr := h.year
  unfold computusref02_Date.f
  refine Ev.bind (rcan_ev n) ?_
  simp only [decide_eq_true_eq, if_pos hc]
  unfold CanDay at hc
  rw [rdiv_eq _ _ (by unfold I64; omega) (by omega) (by omega), rmod_eq _ _ (by omega) (by omega)]
  simp only [Option.bind_some]
  rw [w64 (x := n / 146097 * 400) (by omega) (by omega), w64 (by omega) (by omega)]
  have e : dby (2000 + n / 146097 * 400) = n / 146097 * 146097 := by
    have := dby_era 2000 (n / 146097)
    have c : dby 2000 = 0 := by decide
    rw [show 2000 + n / 146097 * 400 = 2000 + 400 * (n / 146097) by omega, this, c]; omega
  have hle : 2000 + n / 146097 * 400 ≤ y := by
    rcases Int.lt_or_le y (2000 + n / 146097 * 400) with g | g
    · have := dby_far (y + 1) (2000 + n / 146097 * 400) (by omega)
      omega
    · exact g
  exact rdate_years h (by omega) (y - (2000 + n / 146097 * 400)).toNat _ _ hle (by omega) (by omega) (by rw [e]; omega) (by omega)
theorem rdate_no {n : Int} (hc : ¬ CanDay n) : Ev (fun k => computusref02_Date.f k n) (0, 0, 0, 10) := by
  unfold computusref02_Date.f
  refine Ev.bind (rcan_ev n) ?_
  simp only [decide_eq_true_eq, if_neg hc]
  exact Ev.now _
theorem rweekday_eq (n : Int) : computusref02_Weekday.f n = some (wday n) := by
  unfold computusref02_Weekday.f
  rw [rmod_eq _ _ (by omega) (by omega)]
  simp only [Option.bind_some]
  rw [w64 (by omega) (by omega), rmod_eq _ _ (by omega) (by omega)]
  simp only [Option.bind_some]
  congr 1
  unfold wday
  omega
end Go.Proofs.Ytlpnbbonbclddaa.Civ
