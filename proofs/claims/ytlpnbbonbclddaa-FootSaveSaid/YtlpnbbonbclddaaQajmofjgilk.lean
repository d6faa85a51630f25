/- The reference's day of a month, the instants of both, and the reference's shift of a year. -/
import Derived.Test.YtlpnbbonbclddaaQdggjdammlb
namespace Go.Proofs.Ytlpnbbonbclddaa.P
open Go Go.RowKit Go.Proofs.Ytlpnbbonbclddaa.Civ Go.Proofs.Ytlpnbbonbclddaa.Ft
set_option linter.unusedVariables false
set_option linter.unusedSimpArgs false
section
open A
set_option maxRecDepth 100000 in
theorem rday0_vc (y m w n : Int) (K : AV → Prop) : AF (tab [(48, ccWk), (46, ccDays), (47, ccLen)]) 12 33 [.int .i64 y, .int .i64 m, .agg [.int .i64 0, .int .i64 w, .int .i64 n]] K =
    (brc (decide (w ≥ 0)) (brc (decide (n ≥ 1)) (brc (decide (n ≤ 31)) (brc (!w == 0) (K (AV.tup [AV.int IntKind.i64 0, AV.int IntKind.i64 1])) (brc (decide (m < 1)) (K (AV.tup [AV.int IntKind.i64 0, AV.int IntKind.i64 1])) (brc (decide (m > 12)) (K (AV.tup [AV.int IntKind.i64 0, AV.int IntKind.i64 1])) (brc (decide (y ≤ -4718)) (K (AV.tup [AV.int IntKind.i64 0, AV.int IntKind.i64 10])) (brc (decide (y ≥ 294282)) (K (AV.tup [AV.int IntKind.i64 0, AV.int IntKind.i64 10])) (∀ (m0 : Int), (m0 = if DateOk y m 1 then dnum y m 1 else 0) → ∀ (m1 : Int), (m1 = if DateOk y m 1 then 0 else 10) → K (AV.tup [AV.int IntKind.i64 (IntKind.wrap IntKind.i64 (IntKind.wrap IntKind.i64 (m0 + n) - 1)), AV.int IntKind.i64 0]))))))) (K (AV.tup [AV.int IntKind.i64 0, AV.int IntKind.i64 1]))) (K (AV.tup [AV.int IntKind.i64 0, AV.int IntKind.i64 1]))) (brc (decide (n ≥ 1)) (brc (decide (n ≤ 31)) (brc (!w == 0) (K (AV.tup [AV.int IntKind.i64 0, AV.int IntKind.i64 1])) (brc (decide (m < 1)) (K (AV.tup [AV.int IntKind.i64 0, AV.int IntKind.i64 1])) (brc (decide (m > 12)) (K (AV.tup [AV.int IntKind.i64 0, AV.int IntKind.i64 1])) (brc (decide (y ≤ -4718)) (K (AV.tup [AV.int IntKind.i64 0, AV.int IntKind.i64 10])) (brc (decide (y ≥ 294282)) (K (AV.tup [AV.int IntKind.i64 0, AV.int IntKind.i64 10])) (∀ (m0 : Int), (m0 = if DateOk y m 1 then dnum y m 1 else 0) → ∀ (m1 : Int), (m1 = if DateOk y m 1 then 0 else 10) → K (AV.tup [AV.int IntKind.i64 (IntKind.wrap IntKind.i64 (IntKind.wrap IntKind.i64 (m0 + n) - 1)), AV.int IntKind.i64 0]))))))) (K (AV.tup [AV.int IntKind.i64 0, AV.int IntKind.i64 1]))) (K (AV.tup [AV.int IntKind.i64 0, AV.int IntKind.i64 1])))) := by kernel_rfl
set_option maxRecDepth 100000 in
theorem rday1_vc (y m w n : Int) (K : AV → Prop) : AF (tab [(48, ccWk), (46, ccDays), (47, ccLen)]) 12 33 [.int .i64 y, .int .i64 m, .agg [.int .i64 1, .int .i64 w, .int .i64 n]] K =
    (brc (decide (w ≥ 0)) (brc (decide (n ≥ 1)) (brc (decide (w ≤ 6)) (brc (!n == 0) (K (AV.tup [AV.int IntKind.i64 0, AV.int IntKind.i64 1])) (brc (decide (m < 1)) (K (AV.tup [AV.int IntKind.i64 0, AV.int IntKind.i64 1])) (brc (decide (m > 12)) (K (AV.tup [AV.int IntKind.i64 0, AV.int IntKind.i64 1])) (brc (decide (y ≤ -4718)) (K (AV.tup [AV.int IntKind.i64 0, AV.int IntKind.i64 10])) (brc (decide (y ≥ 294282)) (K (AV.tup [AV.int IntKind.i64 0, AV.int IntKind.i64 10])) (∀ (m0 : Int), (m0 = if DateOk y m 1 then dnum y m 1 else 0) → ∀ (m1 : Int), (m1 = if DateOk y m 1 then 0 else 10) → ∀ (m2 : Int), m2 = mlen y m → goD w (fun x => x - 1) (fun x => K (AV.tup [AV.int IntKind.i64 x, AV.int IntKind.i64 0])) 7 (IntKind.wrap IntKind.i64 (IntKind.wrap IntKind.i64 (m0 + m2) - 1)))))))) (K (AV.tup [AV.int IntKind.i64 0, AV.int IntKind.i64 1]))) (brc (decide (w ≤ 6)) (brc (!n == 0) (K (AV.tup [AV.int IntKind.i64 0, AV.int IntKind.i64 1])) (brc (decide (m < 1)) (K (AV.tup [AV.int IntKind.i64 0, AV.int IntKind.i64 1])) (brc (decide (m > 12)) (K (AV.tup [AV.int IntKind.i64 0, AV.int IntKind.i64 1])) (brc (decide (y ≤ -4718)) (K (AV.tup [AV.int IntKind.i64 0, AV.int IntKind.i64 10])) (brc (decide (y ≥ 294282)) (K (AV.tup [AV.int IntKind.i64 0, AV.int IntKind.i64 10])) (∀ (m0 : Int), (m0 = if DateOk y m 1 then dnum y m 1 else 0) → ∀ (m1 : Int), (m1 = if DateOk y m 1 then 0 else 10) → ∀ (m2 : Int), m2 = mlen y m → goD w (fun x => x - 1) (fun x => K (AV.tup [AV.int IntKind.i64 x, AV.int IntKind.i64 0])) 7 (IntKind.wrap IntKind.i64 (IntKind.wrap IntKind.i64 (m0 + m2) - 1)))))))) (K (AV.tup [AV.int IntKind.i64 0, AV.int IntKind.i64 1])))) (brc (decide (n ≥ 1)) (K (AV.tup [AV.int IntKind.i64 0, AV.int IntKind.i64 1])) (K (AV.tup [AV.int IntKind.i64 0, AV.int IntKind.i64 1])))) := by kernel_rfl
set_option maxRecDepth 100000 in
theorem rday2_vc (y m w n : Int) (K : AV → Prop) : AF (tab [(48, ccWk), (46, ccDays), (47, ccLen)]) 12 33 [.int .i64 y, .int .i64 m, .agg [.int .i64 2, .int .i64 w, .int .i64 n]] K =
    (brc (decide (w ≥ 0)) (brc (decide (n ≥ 1)) (brc (decide (w ≤ 6)) (brc (!decide (n ≤ 31)) (K (AV.tup [AV.int IntKind.i64 0, AV.int IntKind.i64 1])) (brc (decide (m < 1)) (K (AV.tup [AV.int IntKind.i64 0, AV.int IntKind.i64 1])) (brc (decide (m > 12)) (K (AV.tup [AV.int IntKind.i64 0, AV.int IntKind.i64 1])) (brc (decide (y ≤ -4718)) (K (AV.tup [AV.int IntKind.i64 0, AV.int IntKind.i64 10])) (brc (decide (y ≥ 294282)) (K (AV.tup [AV.int IntKind.i64 0, AV.int IntKind.i64 10])) (∀ (m0 : Int), (m0 = if DateOk y m 1 then dnum y m 1 else 0) → ∀ (m1 : Int), (m1 = if DateOk y m 1 then 0 else 10) → goD w (fun x => x + 1) (fun x => K (AV.tup [AV.int IntKind.i64 x, AV.int IntKind.i64 0])) 7 (IntKind.wrap IntKind.i64 (IntKind.wrap IntKind.i64 (m0 + n) - 1)))))))) (K (AV.tup [AV.int IntKind.i64 0, AV.int IntKind.i64 1]))) (brc (decide (w ≤ 6)) (K (AV.tup [AV.int IntKind.i64 0, AV.int IntKind.i64 1])) (K (AV.tup [AV.int IntKind.i64 0, AV.int IntKind.i64 1])))) (brc (decide (n ≥ 1)) (K (AV.tup [AV.int IntKind.i64 0, AV.int IntKind.i64 1])) (K (AV.tup [AV.int IntKind.i64 0, AV.int IntKind.i64 1])))) := by kernel_rfl
set_option maxRecDepth 100000 in
theorem rday3_vc (y m w n : Int) (K : AV → Prop) : AF (tab [(48, ccWk), (46, ccDays), (47, ccLen)]) 12 33 [.int .i64 y, .int .i64 m, .agg [.int .i64 3, .int .i64 w, .int .i64 n]] K =
    (brc (decide (w ≥ 0)) (brc (decide (n ≥ 1)) (brc (decide (w ≤ 6)) (brc (!decide (n ≤ 31)) (K (AV.tup [AV.int IntKind.i64 0, AV.int IntKind.i64 1])) (brc (decide (m < 1)) (K (AV.tup [AV.int IntKind.i64 0, AV.int IntKind.i64 1])) (brc (decide (m > 12)) (K (AV.tup [AV.int IntKind.i64 0, AV.int IntKind.i64 1])) (brc (decide (y ≤ -4718)) (K (AV.tup [AV.int IntKind.i64 0, AV.int IntKind.i64 10])) (brc (decide (y ≥ 294282)) (K (AV.tup [AV.int IntKind.i64 0, AV.int IntKind.i64 10])) (∀ (m0 : Int), (m0 = if DateOk y m 1 then dnum y m 1 else 0) → ∀ (m1 : Int), (m1 = if DateOk y m 1 then 0 else 10) → goD w (fun x => x - 1) (fun x => K (AV.tup [AV.int IntKind.i64 x, AV.int IntKind.i64 0])) 7 (IntKind.wrap IntKind.i64 (IntKind.wrap IntKind.i64 (m0 + n) - 1)))))))) (K (AV.tup [AV.int IntKind.i64 0, AV.int IntKind.i64 1]))) (brc (decide (w ≤ 6)) (K (AV.tup [AV.int IntKind.i64 0, AV.int IntKind.i64 1])) (K (AV.tup [AV.int IntKind.i64 0, AV.int IntKind.i64 1])))) (brc (decide (n ≥ 1)) (K (AV.tup [AV.int IntKind.i64 0, AV.int IntKind.i64 1])) (K (AV.tup [AV.int IntKind.i64 0, AV.int IntKind.i64 1])))) := by kernel_rfl
set_option maxRecDepth 100000 in
theorem cyDayR_ok : COk Try.prog 33 cyDay := af_con (tab_cons ccWk_okR (tab_cons ccDays_okR (tab_cons ccLen_okR tab_nil))) (by kernel_rfl) fun args p v hc hp => by
  unfold cyDay at hc
  split at hc
  case h_2 => cases hc
  rename_i y m k w n
  simp only [Option.some.injEq, Prod.mk.injEq] at hc
  obtain ⟨rfl, rfl⟩ := hc
  obtain ⟨h1, h2, h3, h4, h5⟩ := of_decide_eq_true hp
  obtain ⟨f1, f2, f3⟩ := first_ok h1 h2 h3 h4
  have hl := mlen_bd y m h3 h4
  refine ⟨rfl, 12, ?_⟩
  rcases h5 with ⟨rfl, rfl, h6, h7⟩ | ⟨rfl, rfl, h6, h7⟩ | ⟨rfl | rfl, h6, h7, h8, h9⟩
  · rw [rday0_vc]
    simp only [f1, if_true]
    repeat first
      | (rintro _ rfl)
      | ((with_reducible refine brcT ?_ ?_); focus (first | exact decide_eq_true (by omega) | (simp only [decide_eq_true_eq, decide_eq_false_iff_not, Bool.not_eq_true', Bool.not_eq_false', beq_iff_eq, beq_eq_false_iff_ne, bne_iff_ne, bne_eq_false_iff_eq, ne_eq, Bool.and_eq_true, Bool.and_eq_false_iff, Bool.true_and]; omega) | rfl))
      | ((with_reducible refine brcF ?_ ?_); focus (first | exact decide_eq_false (by omega) | (simp only [decide_eq_true_eq, decide_eq_false_iff_not, Bool.not_eq_true', Bool.not_eq_false', beq_iff_eq, beq_eq_false_iff_ne, bne_iff_ne, bne_eq_false_iff_eq, ne_eq, Bool.and_eq_true, Bool.and_eq_false_iff, Bool.true_and]; omega) | rfl))
    rw [wv (x := dnum y m 1 + n) (by omega) (by omega), wv (x := dnum y m 1 + n - 1) (by omega) (by omega)]
    unfold dayOn; simp
  · rw [rday1_vc]
    simp only [f1, if_true]
    repeat first
      | (rintro _ rfl)
      | ((with_reducible refine brcT ?_ ?_); focus (first | exact decide_eq_true (by omega) | (simp only [decide_eq_true_eq, decide_eq_false_iff_not, Bool.not_eq_true', Bool.not_eq_false', beq_iff_eq, beq_eq_false_iff_ne, bne_iff_ne, bne_eq_false_iff_eq, ne_eq, Bool.and_eq_true, Bool.and_eq_false_iff, Bool.true_and]; omega) | rfl))
      | ((with_reducible refine brcF ?_ ?_); focus (first | exact decide_eq_false (by omega) | (simp only [decide_eq_true_eq, decide_eq_false_iff_not, Bool.not_eq_true', Bool.not_eq_false', beq_iff_eq, beq_eq_false_iff_ne, bne_iff_ne, bne_eq_false_iff_eq, ne_eq, Bool.and_eq_true, Bool.and_eq_false_iff, Bool.true_and]; omega) | rfl))
    rw [wv (x := dnum y m 1 + mlen y m) (by omega) (by omega), wv (x := dnum y m 1 + mlen y m - 1) (by omega) (by omega)]
    refine goD_down ⟨by omega, by omega⟩ (n := dnum y m 1 + mlen y m - 1) ⟨by omega, by omega⟩ ?_ 7 _ (Int.le_refl _) ?_ ?_
    · unfold dayOn; simp
    · have := toF_bd (dnum y m 1 + mlen y m - 1) w (-1); omega
    · have := toF_bd (dnum y m 1 + mlen y m - 1) w (-1); omega
  · rw [rday2_vc]
    simp only [f1, if_true]
    repeat first
      | (rintro _ rfl)
      | ((with_reducible refine brcT ?_ ?_); focus (first | exact decide_eq_true (by omega) | (simp only [decide_eq_true_eq, decide_eq_false_iff_not, Bool.not_eq_true', Bool.not_eq_false', beq_iff_eq, beq_eq_false_iff_ne, bne_iff_ne, bne_eq_false_iff_eq, ne_eq, Bool.and_eq_true, Bool.and_eq_false_iff, Bool.true_and]; omega) | rfl))
      | ((with_reducible refine brcF ?_ ?_); focus (first | exact decide_eq_false (by omega) | (simp only [decide_eq_true_eq, decide_eq_false_iff_not, Bool.not_eq_true', Bool.not_eq_false', beq_iff_eq, beq_eq_false_iff_ne, bne_iff_ne, bne_eq_false_iff_eq, ne_eq, Bool.and_eq_true, Bool.and_eq_false_iff, Bool.true_and]; omega) | rfl))
    rw [wv (x := dnum y m 1 + n) (by omega) (by omega), wv (x := dnum y m 1 + n - 1) (by omega) (by omega)]
    refine goD_up ⟨by omega, by omega⟩ (n := dnum y m 1 + n - 1) ⟨by omega, by omega⟩ ?_ 7 _ (Int.le_refl _) ?_ ?_
    · unfold dayOn; simp
    · have := toF_bd (dnum y m 1 + n - 1) w (1); omega
    · have := toF_bd (dnum y m 1 + n - 1) w (1); omega
  · rw [rday3_vc]
    simp only [f1, if_true]
    repeat first
      | (rintro _ rfl)
      | ((with_reducible refine brcT ?_ ?_); focus (first | exact decide_eq_true (by omega) | (simp only [decide_eq_true_eq, decide_eq_false_iff_not, Bool.not_eq_true', Bool.not_eq_false', beq_iff_eq, beq_eq_false_iff_ne, bne_iff_ne, bne_eq_false_iff_eq, ne_eq, Bool.and_eq_true, Bool.and_eq_false_iff, Bool.true_and]; omega) | rfl))
      | ((with_reducible refine brcF ?_ ?_); focus (first | exact decide_eq_false (by omega) | (simp only [decide_eq_true_eq, decide_eq_false_iff_not, Bool.not_eq_true', Bool.not_eq_false', beq_iff_eq, beq_eq_false_iff_ne, bne_iff_ne, bne_eq_false_iff_eq, ne_eq, Bool.and_eq_true, Bool.and_eq_false_iff, Bool.true_and]; omega) | rfl))
    rw [wv (x := dnum y m 1 + n) (by omega) (by omega), wv (x := dnum y m 1 + n - 1) (by omega) (by omega)]
    refine goD_down ⟨by omega, by omega⟩ (n := dnum y m 1 + n - 1) ⟨by omega, by omega⟩ ?_ 7 _ (Int.le_refl _) ?_ ?_
    · unfold dayOn; simp
    · have := toF_bd (dnum y m 1 + n - 1) w (-1); omega
    · have := toF_bd (dnum y m 1 + n - 1) w (-1); omega
set_option maxRecDepth 100000 in
theorem inst_vc (d s c off v : Int) (K : AV → Prop) : AF (tab []) 6 31 [.int .i64 d, .int .i64 s, .int .u8 c, .int .i64 off, .int .i64 v] K =
    (brc (c == 117) (K (AV.int IntKind.i64 (IntKind.wrap IntKind.i64 (IntKind.wrap IntKind.i64 (IntKind.wrap IntKind.i64 (IntKind.wrap IntKind.i64 (IntKind.wrap IntKind.i64 (d + 10957) * 86400) + s) - 0) - 0)))) (brc (c == 115) (K (AV.int IntKind.i64 (IntKind.wrap IntKind.i64 (IntKind.wrap IntKind.i64 (IntKind.wrap IntKind.i64 (IntKind.wrap IntKind.i64 (IntKind.wrap IntKind.i64 (d + 10957) * 86400) + s) - off) - 0)))) (K (AV.int IntKind.i64 (IntKind.wrap IntKind.i64 (IntKind.wrap IntKind.i64 (IntKind.wrap IntKind.i64 (IntKind.wrap IntKind.i64 (IntKind.wrap IntKind.i64 (d + 10957) * 86400) + s) - off) - v)))))) := by kernel_rfl
set_option maxRecDepth 100000 in
theorem rinst_vc (d s c off v : Int) (K : AV → Prop) : AF (tab []) 6 34 [.int .i64 d, .int .i64 s, .int .u8 c, .int .i64 off, .int .i64 v] K =
    (brc (c == 117) (K (AV.int IntKind.i64 (IntKind.wrap IntKind.i64 (IntKind.wrap IntKind.i64 (IntKind.wrap IntKind.i64 (d + 10957) * 86400) + s)))) (brc (c == 115) (K (AV.int IntKind.i64 (IntKind.wrap IntKind.i64 (IntKind.wrap IntKind.i64 (IntKind.wrap IntKind.i64 (IntKind.wrap IntKind.i64 (d + 10957) * 86400) + s) - off)))) (K (AV.int IntKind.i64 (IntKind.wrap IntKind.i64 (IntKind.wrap IntKind.i64 (IntKind.wrap IntKind.i64 (IntKind.wrap IntKind.i64 (IntKind.wrap IntKind.i64 (d + 10957) * 86400) + s) - off) - v)))))) := by kernel_rfl
theorem cyInst_ok : COk Try.prog 31 cyInst := af_con tab_nil (by kernel_rfl) fun args p v hc hp => by
  unfold cyInst at hc
  split at hc
  case h_2 => cases hc
  rename_i d s c off v
  simp only [Option.some.injEq, Prod.mk.injEq] at hc
  obtain ⟨rfl, rfl⟩ := hc
  obtain ⟨h1, h2, h3, h4, h5, h6, h7, h8⟩ := of_decide_eq_true hp
  refine ⟨rfl, 6, ?_⟩
  rw [inst_vc]
  rw [wv (x := d + 10957) (by omega) (by omega), wv (x := (d + 10957) * 86400) (by omega) (by omega), wv (x := (d + 10957) * 86400 + s) (by omega) (by omega)]
  rw [wv (x := (d + 10957) * 86400 + s - 0) (by omega) (by omega), wv (x := (d + 10957) * 86400 + s - off) (by omega) (by omega)]
  unfold inst
  refine brc_intro (fun h => ?_) fun h => brc_intro (fun g => ?_) fun g => ?_
  · have h : c = 117 := by simpa using h
    rw [wv (by omega) (by omega), if_pos h, if_pos (.inl h)]
  · have h : ¬ c = 117 := by simpa using h
    have g : c = 115 := by simpa using g
    rw [wv (by omega) (by omega), if_neg h, if_pos (.inr g)]
  · have h : ¬ c = 117 := by simpa using h
    have g : ¬ c = 115 := by simpa using g
    rw [wv (by omega) (by omega), if_neg h, if_neg (by omega)]
theorem cyInstR_ok : COk Try.prog 34 cyInst := af_con tab_nil (by kernel_rfl) fun args p v hc hp => by
  unfold cyInst at hc
  split at hc
  case h_2 => cases hc
  rename_i d s c off v
  simp only [Option.some.injEq, Prod.mk.injEq] at hc
  obtain ⟨rfl, rfl⟩ := hc
  obtain ⟨h1, h2, h3, h4, h5, h6, h7, h8⟩ := of_decide_eq_true hp
  refine ⟨rfl, 6, ?_⟩
  rw [rinst_vc]
  rw [wv (x := d + 10957) (by omega) (by omega), wv (x := (d + 10957) * 86400) (by omega) (by omega), wv (x := (d + 10957) * 86400 + s) (by omega) (by omega)]
  rw [wv (x := (d + 10957) * 86400 + s - off) (by omega) (by omega)]
  unfold inst
  refine brc_intro (fun h => ?_) fun h => brc_intro (fun g => ?_) fun g => ?_
  · have h : c = 117 := by simpa using h
    rw [if_pos h, if_pos (.inl h)]
    congr 1; omega
  · have h : ¬ c = 117 := by simpa using h
    have g : c = 115 := by simpa using g
    rw [if_neg h, if_pos (.inr g)]
    congr 1; omega
  · have h : ¬ c = 117 := by simpa using h
    have g : ¬ c = 115 := by simpa using g
    rw [wv (by omega) (by omega), if_neg h, if_neg (by omega)]
theorem bne_dec (v : Int) : (v != 0) = decide (v ≠ 0) := by by_cases e : v = 0 <;> simp [e]
theorem day_in {h o : Hf} {off y : Int} (h1 : HfOk h) (h2 : HfOk o) (h3 : -50400 ≤ off) (h4 : off ≤ 50400) (h5 : -4718 < y) (h6 : y < 294282) : -10000000000 ≤ dayOn y h.m h.k h.w h.n ∧ dayOn y h.m h.k h.w h.n ≤ 10000000000 ∧ 0 ≤ h.s ∧ h.s ≤ 86400 ∧ -50400 ≤ off ∧ off ≤ 50400 ∧ 0 ≤ o.v ∧ o.v ≤ 7200 := by
  have hb := dayOn_bd (y := y) h1.1 h1.2.1 h1.2.2.1
  have hc := cum_top (y := y) h1.1 h1.2.1
  have hd : -3000000 ≤ dby y ∧ dby y ≤ 110000000 := by unfold dby; omega
  exact ⟨by omega, by omega, h1.2.2.2.1.1, h1.2.2.2.1.2.1, h3, h4, h2.2.2.2.2.1, h2.2.2.2.2.2⟩
set_option maxRecDepth 100000 in
theorem rshift_vc (h o : Hf) (off y : Int) (K : AV → Prop) : AF (tab [(33, cyDay), (34, cyInst)]) 6 23 [.agg (avH h), .agg (avH o), .int .i64 off, .int .i64 y] K =
    (brc (decide (-4718 < y ∧ y < 294282 ∧ 1 ≤ Hf.m h ∧ Hf.m h ≤ 12 ∧ OnOk (Hf.k h) (Hf.w h) (Hf.n h))) (∀ (m0 : Int), m0 = dayOn y (Hf.m h) (Hf.k h) (Hf.w h) (Hf.n h) → ∀ (m1 : Int), m1 = 0 → brc (decide (-10000000000 ≤ m0 ∧ m0 ≤ 10000000000 ∧ 0 ≤ Hf.s h ∧ Hf.s h ≤ 86400 ∧ -50400 ≤ off ∧ off ≤ 50400 ∧ 0 ≤ Hf.v o ∧ Hf.v o ≤ 7200)) (∀ (m2 : Int), m2 = inst m0 (Hf.s h) (Hf.c h) off (Hf.v o) → K (AV.agg [AV.int IntKind.i64 m2, AV.int IntKind.i64 (IntKind.wrap IntKind.i64 (off + Hf.v h)), AV.bool (Hf.v h != 0), AV.str (Hf.ab h)])) False) False) := by kernel_rfl
theorem cyRshift_ok : COk Try.prog 23 cyRshift := af_con (tab_cons cyDayR_ok (tab_cons cyInstR_ok tab_nil)) (by kernel_rfl) fun args p v hc hp => by
  unfold cyRshift at hc
  split at hc
  case h_2 => cases hc
  split at hc
  case h_2 => cases hc
  rename_i off y _ _ h o hl hm
  simp only [Option.some.injEq, Prod.mk.injEq] at hc
  obtain ⟨rfl, rfl⟩ := hc
  obtain ⟨h1, h2, h3, h4, h5, h6⟩ := of_decide_eq_true hp
  rw [rdH_ok hl, rdH_ok hm]
  refine ⟨rfl, 6, ?_⟩
  rw [rshift_vc]
  refine brcT (decide_eq_true ⟨h5, h6, h1.1, h1.2.1, h1.2.2.1⟩) ?_
  rintro _ rfl _ rfl
  refine brcT (decide_eq_true (day_in h1 h2 h3 h4 h5 h6)) ?_
  rintro _ rfl
  rw [wv (by have := h1.2.2.2.2; omega) (by have := h1.2.2.2.2; omega), bne_dec]
  rfl
end
end Go.Proofs.Ytlpnbbonbclddaa.P
