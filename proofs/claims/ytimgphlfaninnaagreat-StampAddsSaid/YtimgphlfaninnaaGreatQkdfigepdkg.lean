import Derived.Test.YtimgphlfaninnaaGreatQdnpmmldpid
import Derived.BigRegion
import Derived.Carry
import Derived.MapKept
import Derived.Test.YtimgphlfaninnaaGreatQdfoehbdgao
namespace Go.Proofs.YtimgphlfaninnaaGreat.P
open Go Go.RowKit Go.Proofs.YtimgphlfaninnaaGreat.Civ Go.Proofs.YtimgphlfaninnaaGreat.Ft
set_option linter.unusedVariables false
set_option linter.unusedSimpArgs false
section
open A
set_option maxRecDepth 100000 in
theorem rday0_vc (y m w n : Int) (K : AV → Prop) : AF (tab [(181, ccWk), (121, ccDays), (143, ccLen)]) 12 170 [.int .i64 y, .int .i64 m, .agg [.int .i64 0, .int .i64 w, .int .i64 n]] K =
 (brc (decide (w ≥ 0)) (brc (decide (n ≥ 1)) (brc (decide (n ≤ 31)) (brc (!w == 0) (K (AV.tup [.int .i64 0, .int .i64 1])) (brc (decide (m < 1)) (K (AV.tup [.int .i64 0, .int .i64 1])) (brc (decide (m > 12)) (K (AV.tup [.int .i64 0, .int .i64 1])) (brc (decide (y ≤ -4718)) (K (AV.tup [.int .i64 0, .int .i64 10])) (brc (decide (y ≥ 294282)) (K (AV.tup [.int .i64 0, .int .i64 10])) (∀ (m0 : Int), (m0 = if DateOk y m 1 then dnum y m 1 else 0) → ∀ (m1 : Int), (m1 = if DateOk y m 1 then 0 else 10) → K (AV.tup [.int .i64 (IntKind.wrap .i64 (IntKind.wrap .i64 (m0 + n) - 1)), .int .i64 0]))))))) (K (AV.tup [.int .i64 0, .int .i64 1]))) (K (AV.tup [.int .i64 0, .int .i64 1]))) (brc (decide (n ≥ 1)) (brc (decide (n ≤ 31)) (brc (!w == 0) (K (AV.tup [.int .i64 0, .int .i64 1])) (brc (decide (m < 1)) (K (AV.tup [.int .i64 0, .int .i64 1])) (brc (decide (m > 12)) (K (AV.tup [.int .i64 0, .int .i64 1])) (brc (decide (y ≤ -4718)) (K (AV.tup [.int .i64 0, .int .i64 10])) (brc (decide (y ≥ 294282)) (K (AV.tup [.int .i64 0, .int .i64 10])) (∀ (m0 : Int), (m0 = if DateOk y m 1 then dnum y m 1 else 0) → ∀ (m1 : Int), (m1 = if DateOk y m 1 then 0 else 10) → K (AV.tup [.int .i64 (IntKind.wrap .i64 (IntKind.wrap .i64 (m0 + n) - 1)), .int .i64 0]))))))) (K (AV.tup [.int .i64 0, .int .i64 1]))) (K (AV.tup [.int .i64 0, .int .i64 1])))) := by kernel_rfl
set_option maxRecDepth 100000 in
theorem rday1_vc (y m w n : Int) (K : AV → Prop) : AF (tab [(181, ccWk), (121, ccDays), (143, ccLen)]) 12 170 [.int .i64 y, .int .i64 m, .agg [.int .i64 1, .int .i64 w, .int .i64 n]] K =
 (brc (decide (w ≥ 0)) (brc (decide (n ≥ 1)) (brc (decide (w ≤ 6)) (brc (!n == 0) (K (AV.tup [.int .i64 0, .int .i64 1])) (brc (decide (m < 1)) (K (AV.tup [.int .i64 0, .int .i64 1])) (brc (decide (m > 12)) (K (AV.tup [.int .i64 0, .int .i64 1])) (brc (decide (y ≤ -4718)) (K (AV.tup [.int .i64 0, .int .i64 10])) (brc (decide (y ≥ 294282)) (K (AV.tup [.int .i64 0, .int .i64 10])) (∀ (m0 : Int), (m0 = if DateOk y m 1 then dnum y m 1 else 0) → ∀ (m1 : Int), (m1 = if DateOk y m 1 then 0 else 10) → ∀ m2 : Int, m2 = mlen y m → goD w (fun x => x - 1) (fun x => K (AV.tup [.int .i64 x, .int .i64 0])) 7 (IntKind.wrap .i64 (IntKind.wrap .i64 (m0 + m2) - 1)))))))) (K (AV.tup [.int .i64 0, .int .i64 1]))) (brc (decide (w ≤ 6)) (brc (!n == 0) (K (AV.tup [.int .i64 0, .int .i64 1])) (brc (decide (m < 1)) (K (AV.tup [.int .i64 0, .int .i64 1])) (brc (decide (m > 12)) (K (AV.tup [.int .i64 0, .int .i64 1])) (brc (decide (y ≤ -4718)) (K (AV.tup [.int .i64 0, .int .i64 10])) (brc (decide (y ≥ 294282)) (K (AV.tup [.int .i64 0, .int .i64 10])) (∀ (m0 : Int), (m0 = if DateOk y m 1 then dnum y m 1 else 0) → ∀ (m1 : Int), (m1 = if DateOk y m 1 then 0 else 10) → ∀ m2 : Int, m2 = mlen y m → goD w (fun x => x - 1) (fun x => K (AV.tup [.int .i64 x, .int .i64 0])) 7 (IntKind.wrap .i64 (IntKind.wrap .i64 (m0 + m2) - 1)))))))) (K (AV.tup [.int .i64 0, .int .i64 1])))) (brc (decide (n ≥ 1)) (K (AV.tup [.int .i64 0, .int .i64 1])) (K (AV.tup [.int .i64 0, .int .i64 1])))) := by kernel_rfl
set_option maxRecDepth 100000 in
theorem rday2_vc (y m w n : Int) (K : AV → Prop) : AF (tab [(181, ccWk), (121, ccDays), (143, ccLen)]) 12 170 [.int .i64 y, .int .i64 m, .agg [.int .i64 2, .int .i64 w, .int .i64 n]] K =
 (brc (decide (w ≥ 0)) (brc (decide (n ≥ 1)) (brc (decide (w ≤ 6)) (brc (!decide (n ≤ 31)) (K (AV.tup [.int .i64 0, .int .i64 1])) (brc (decide (m < 1)) (K (AV.tup [.int .i64 0, .int .i64 1])) (brc (decide (m > 12)) (K (AV.tup [.int .i64 0, .int .i64 1])) (brc (decide (y ≤ -4718)) (K (AV.tup [.int .i64 0, .int .i64 10])) (brc (decide (y ≥ 294282)) (K (AV.tup [.int .i64 0, .int .i64 10])) (∀ (m0 : Int), (m0 = if DateOk y m 1 then dnum y m 1 else 0) → ∀ (m1 : Int), (m1 = if DateOk y m 1 then 0 else 10) → goD w (fun x => x + 1) (fun x => K (AV.tup [.int .i64 x, .int .i64 0])) 7 (IntKind.wrap .i64 (IntKind.wrap .i64 (m0 + n) - 1)))))))) (K (AV.tup [.int .i64 0, .int .i64 1]))) (brc (decide (w ≤ 6)) (K (AV.tup [.int .i64 0, .int .i64 1])) (K (AV.tup [.int .i64 0, .int .i64 1])))) (brc (decide (n ≥ 1)) (K (AV.tup [.int .i64 0, .int .i64 1])) (K (AV.tup [.int .i64 0, .int .i64 1])))) := by kernel_rfl
set_option maxRecDepth 100000 in
theorem rday3_vc (y m w n : Int) (K : AV → Prop) : AF (tab [(181, ccWk), (121, ccDays), (143, ccLen)]) 12 170 [.int .i64 y, .int .i64 m, .agg [.int .i64 3, .int .i64 w, .int .i64 n]] K =
 (brc (decide (w ≥ 0)) (brc (decide (n ≥ 1)) (brc (decide (w ≤ 6)) (brc (!decide (n ≤ 31)) (K (AV.tup [.int .i64 0, .int .i64 1])) (brc (decide (m < 1)) (K (AV.tup [.int .i64 0, .int .i64 1])) (brc (decide (m > 12)) (K (AV.tup [.int .i64 0, .int .i64 1])) (brc (decide (y ≤ -4718)) (K (AV.tup [.int .i64 0, .int .i64 10])) (brc (decide (y ≥ 294282)) (K (AV.tup [.int .i64 0, .int .i64 10])) (∀ (m0 : Int), (m0 = if DateOk y m 1 then dnum y m 1 else 0) → ∀ (m1 : Int), (m1 = if DateOk y m 1 then 0 else 10) → goD w (fun x => x - 1) (fun x => K (AV.tup [.int .i64 x, .int .i64 0])) 7 (IntKind.wrap .i64 (IntKind.wrap .i64 (m0 + n) - 1)))))))) (K (AV.tup [.int .i64 0, .int .i64 1]))) (brc (decide (w ≤ 6)) (K (AV.tup [.int .i64 0, .int .i64 1])) (K (AV.tup [.int .i64 0, .int .i64 1])))) (brc (decide (n ≥ 1)) (K (AV.tup [.int .i64 0, .int .i64 1])) (K (AV.tup [.int .i64 0, .int .i64 1])))) := by kernel_rfl
set_option maxRecDepth 100000 in
theorem cyDayR_ok : COk Tryz.prog 170 cyDay := af_con (kD ccWk_okR (kD ccDays_okR (kD ccLen_okR bE))) (by kernel_rfl) fun args p v hc hp => by
 unfold cyDay at hc
 split at hc
 case h_2 => cases hc
 rename_i y m k w n
 simp only [Option.some.injEq, Prod.mk.injEq] at hc
 obtain ⟨rfl, rfl⟩ := hc
 obtain ⟨h1, h2, h3, h4, h5⟩ := of_decide_eq_true hp
 obtain ⟨f1, f2, f3⟩ := first_ok h1 h2 h3 h4
 have hl := mlen_bd y m h3 h4
 refine ⟨rfl, 12, ?_⟩
 rcases h5 with ⟨rfl, rfl, h6, h7⟩ | ⟨rfl, rfl, h6, h7⟩ | ⟨rfl | rfl, h6, h7, h8, h9⟩
 · rw [rday0_vc]
   simp only [f1, if_true]
   repeat first
    | (rintro _ rfl)
    | ((with_reducible refine brcT ?_ ?_); focus (first | exact decide_eq_true (by omega) | (simp only [decide_eq_true_eq, decide_eq_false_iff_not, Bool.not_eq_true', Bool.not_eq_false', beq_iff_eq, beq_eq_false_iff_ne, bne_iff_ne, bne_eq_false_iff_eq, ne_eq, Bool.and_eq_true, Bool.and_eq_false_iff, Bool.true_and]; omega) | rfl))
    | ((with_reducible refine brcF ?_ ?_); focus (first | exact decide_eq_false (by omega) | (simp only [decide_eq_true_eq, decide_eq_false_iff_not, Bool.not_eq_true', Bool.not_eq_false', beq_iff_eq, beq_eq_false_iff_ne, bne_iff_ne, bne_eq_false_iff_eq, ne_eq, Bool.and_eq_true, Bool.and_eq_false_iff, Bool.true_and]; omega) | rfl))
   rw [wv (x := dnum y m 1 + n) (by omega) (by omega), wv (x := dnum y m 1 + n - 1) (by omega) (by omega)]
   unfold dayOn; simp
 · rw [rday1_vc]
   simp only [f1, if_true]
   repeat first
    | (rintro _ rfl)
    | ((with_reducible refine brcT ?_ ?_); focus (first | exact decide_eq_true (by omega) | (simp only [decide_eq_true_eq, decide_eq_false_iff_not, Bool.not_eq_true', Bool.not_eq_false', beq_iff_eq, beq_eq_false_iff_ne, bne_iff_ne, bne_eq_false_iff_eq, ne_eq, Bool.and_eq_true, Bool.and_eq_false_iff, Bool.true_and]; omega) | rfl))
    | ((with_reducible refine brcF ?_ ?_); focus (first | exact decide_eq_false (by omega) | (simp only [decide_eq_true_eq, decide_eq_false_iff_not, Bool.not_eq_true', Bool.not_eq_false', beq_iff_eq, beq_eq_false_iff_ne, bne_iff_ne, bne_eq_false_iff_eq, ne_eq, Bool.and_eq_true, Bool.and_eq_false_iff, Bool.true_and]; omega) | rfl))
   rw [wv (x := dnum y m 1 + mlen y m) (by omega) (by omega), wv (x := dnum y m 1 + mlen y m - 1) (by omega) (by omega)]
   refine goD_down ⟨by omega, by omega⟩ (n := dnum y m 1 + mlen y m - 1) ⟨by omega, by omega⟩ ?_ 7 _ (Int.le_refl _) ?_ ?_
   · unfold dayOn; simp
   · have := toF_bd (dnum y m 1 + mlen y m - 1) w (-1); omega
   · have := toF_bd (dnum y m 1 + mlen y m - 1) w (-1); omega
 · rw [rday2_vc]
   simp only [f1, if_true]
   repeat first
    | (rintro _ rfl)
    | ((with_reducible refine brcT ?_ ?_); focus (first | exact decide_eq_true (by omega) | (simp only [decide_eq_true_eq, decide_eq_false_iff_not, Bool.not_eq_true', Bool.not_eq_false', beq_iff_eq, beq_eq_false_iff_ne, bne_iff_ne, bne_eq_false_iff_eq, ne_eq, Bool.and_eq_true, Bool.and_eq_false_iff, Bool.true_and]; omega) | rfl))
    | ((with_reducible refine brcF ?_ ?_); focus (first | exact decide_eq_false (by omega) | (simp only [decide_eq_true_eq, decide_eq_false_iff_not, Bool.not_eq_true', Bool.not_eq_false', beq_iff_eq, beq_eq_false_iff_ne, bne_iff_ne, bne_eq_false_iff_eq, ne_eq, Bool.and_eq_true, Bool.and_eq_false_iff, Bool.true_and]; omega) | rfl))
   rw [wv (x := dnum y m 1 + n) (by omega) (by omega), wv (x := dnum y m 1 + n - 1) (by omega) (by omega)]
   refine goD_up ⟨by omega, by omega⟩ (n := dnum y m 1 + n - 1) ⟨by omega, by omega⟩ ?_ 7 _ (Int.le_refl _) ?_ ?_
   · unfold dayOn; simp
   · have := toF_bd (dnum y m 1 + n - 1) w (1); omega
   · have := toF_bd (dnum y m 1 + n - 1) w (1); omega
 · rw [rday3_vc]
   simp only [f1, if_true]
   repeat first
    | (rintro _ rfl)
    | ((with_reducible refine brcT ?_ ?_); focus (first | exact decide_eq_true (by omega) | (simp only [decide_eq_true_eq, decide_eq_false_iff_not, Bool.not_eq_true', Bool.not_eq_false', beq_iff_eq, beq_eq_false_iff_ne, bne_iff_ne, bne_eq_false_iff_eq, ne_eq, Bool.and_eq_true, Bool.and_eq_false_iff, Bool.true_and]; omega) | rfl))
    | ((with_reducible refine brcF ?_ ?_); focus (first | exact decide_eq_false (by omega) | (simp only [decide_eq_true_eq, decide_eq_false_iff_not, Bool.not_eq_true', Bool.not_eq_false', beq_iff_eq, beq_eq_false_iff_ne, bne_iff_ne, bne_eq_false_iff_eq, ne_eq, Bool.and_eq_true, Bool.and_eq_false_iff, Bool.true_and]; omega) | rfl))
   rw [wv (x := dnum y m 1 + n) (by omega) (by omega), wv (x := dnum y m 1 + n - 1) (by omega) (by omega)]
   refine goD_down ⟨by omega, by omega⟩ (n := dnum y m 1 + n - 1) ⟨by omega, by omega⟩ ?_ 7 _ (Int.le_refl _) ?_ ?_
   · unfold dayOn; simp
   · have := toF_bd (dnum y m 1 + n - 1) w (-1); omega
   · have := toF_bd (dnum y m 1 + n - 1) w (-1); omega
set_option maxRecDepth 100000 in
theorem inst_vc (d s c off v : Int) (K : AV → Prop) : AF (tab []) 6 177 [.int .i64 d, .int .i64 s, .int .u8 c, .int .i64 off, .int .i64 v] K =
 (brc (c == 117) (K (AV.int .i64 (IntKind.wrap .i64 (IntKind.wrap .i64 (IntKind.wrap .i64 (IntKind.wrap .i64 (IntKind.wrap .i64 (d + 10957) * 86400) + s) - 0) - 0)))) (brc (c == 115) (K (AV.int .i64 (IntKind.wrap .i64 (IntKind.wrap .i64 (IntKind.wrap .i64 (IntKind.wrap .i64 (IntKind.wrap .i64 (d + 10957) * 86400) + s) - off) - 0)))) (K (AV.int .i64 (IntKind.wrap .i64 (IntKind.wrap .i64 (IntKind.wrap .i64 (IntKind.wrap .i64 (IntKind.wrap .i64 (d + 10957) * 86400) + s) - off) - v)))))) := by kernel_rfl
set_option maxRecDepth 100000 in
theorem rinst_vc (d s c off v : Int) (K : AV → Prop) : AF (tab []) 6 171 [.int .i64 d, .int .i64 s, .int .u8 c, .int .i64 off, .int .i64 v] K =
 (brc (c == 117) (K (AV.int .i64 (IntKind.wrap .i64 (IntKind.wrap .i64 (IntKind.wrap .i64 (d + 10957) * 86400) + s)))) (brc (c == 115) (K (AV.int .i64 (IntKind.wrap .i64 (IntKind.wrap .i64 (IntKind.wrap .i64 (IntKind.wrap .i64 (d + 10957) * 86400) + s) - off)))) (K (AV.int .i64 (IntKind.wrap .i64 (IntKind.wrap .i64 (IntKind.wrap .i64 (IntKind.wrap .i64 (IntKind.wrap .i64 (d + 10957) * 86400) + s) - off) - v)))))) := by kernel_rfl
theorem cyInst_ok : COk Tryz.prog 177 cyInst := af_con bE (by kernel_rfl) fun args p v hc hp => by
 unfold cyInst at hc
 split at hc
 case h_2 => cases hc
 rename_i d s c off v
 simp only [Option.some.injEq, Prod.mk.injEq] at hc
 obtain ⟨rfl, rfl⟩ := hc
 obtain ⟨h1, h2, h3, h4, h5, h6, h7, h8⟩ := of_decide_eq_true hp
 refine ⟨rfl, 6, ?_⟩
 rw [inst_vc]
 rw [wv (x := d + 10957) (by omega) (by omega), wv (x := (d + 10957) * 86400) (by omega) (by omega), wv (x := (d + 10957) * 86400 + s) (by omega) (by omega)]
 rw [wv (x := (d + 10957) * 86400 + s - 0) (by omega) (by omega), wv (x := (d + 10957) * 86400 + s - off) (by omega) (by omega)]
 unfold inst
 refine kB (fun h => ?_) fun h => kB (fun g => ?_) fun g => ?_
 · have h : c = 117 := by simpa using h
   rw [wv (by omega) (by omega), if_pos h, if_pos (.inl h)]
 · have h : ¬ c = 117 := by simpa using h
   have g : c = 115 := by simpa using g
   rw [wv (by omega) (by omega), if_neg h, if_pos (.inr g)]
 · have h : ¬ c = 117 := by simpa using h
   have g : ¬ c = 115 := by simpa using g
   rw [wv (by omega) (by omega), if_neg h, if_neg (by omega)]
theorem cyInstR_ok : COk Tryz.prog 171 cyInst := af_con bE (by kernel_rfl) fun args p v hc hp => by
 unfold cyInst at hc
 split at hc
 case h_2 => cases hc
 rename_i d s c off v
 simp only [Option.some.injEq, Prod.mk.injEq] at hc
 obtain ⟨rfl, rfl⟩ := hc
 obtain ⟨h1, h2, h3, h4, h5, h6, h7, h8⟩ := of_decide_eq_true hp
 refine ⟨rfl, 6, ?_⟩
 rw [rinst_vc]
 rw [wv (x := d + 10957) (by omega) (by omega), wv (x := (d + 10957) * 86400) (by omega) (by omega), wv (x := (d + 10957) * 86400 + s) (by omega) (by omega)]
 rw [wv (x := (d + 10957) * 86400 + s - off) (by omega) (by omega)]
 unfold inst
 refine kB (fun h => ?_) fun h => kB (fun g => ?_) fun g => ?_
 · have h : c = 117 := by simpa using h
   rw [if_pos h, if_pos (.inl h)]
   congr 1; omega
 · have h : ¬ c = 117 := by simpa using h
   have g : c = 115 := by simpa using g
   rw [if_neg h, if_pos (.inr g)]
   congr 1; omega
 · have h : ¬ c = 117 := by simpa using h
   have g : ¬ c = 115 := by simpa using g
   rw [wv (by omega) (by omega), if_neg h, if_neg (by omega)]
theorem bne_dec (v : Int) : (v != 0) = decide (v ≠ 0) := by by_cases e : v = 0 <;> simp [e]
theorem day_in {h o : Hf} {off y : Int} (h1 : HfOk h) (h2 : HfOk o) (h3 : -50400 ≤ off) (h4 : off ≤ 50400) (h5 : -4718 < y) (h6 : y < 294282) : -10000000000 ≤ dayOn y h.m h.k h.w h.n ∧ dayOn y h.m h.k h.w h.n ≤ 10000000000 ∧ 0 ≤ h.s ∧ h.s ≤ 86400 ∧ -50400 ≤ off ∧ off ≤ 50400 ∧ 0 ≤ o.v ∧ o.v ≤ 7200 := by
 have hb := dayOn_bd (y := y) h1.1 h1.2.1 h1.2.2.1
 have hc := cum_top (y := y) h1.1 h1.2.1
 have hd : -3000000 ≤ dby y ∧ dby y ≤ 110000000 := by unfold dby; omega
 exact ⟨by omega, by omega, h1.2.2.2.1.1, h1.2.2.2.1.2.1, h3, h4, h2.2.2.2.2.1, h2.2.2.2.2.2⟩
set_option maxRecDepth 100000 in
theorem rshift_vc (h o : Hf) (off y : Int) (K : AV → Prop) : AF (tab [(170, cyDay), (171, cyInst)]) 6 154 [.agg (avH h), .agg (avH o), .int .i64 off, .int .i64 y] K =
 (brc (decide (-4718 < y ∧ y < 294282 ∧ 1 ≤ Hf.m h ∧ Hf.m h ≤ 12 ∧ OnOk (Hf.k h) (Hf.w h) (Hf.n h))) (∀ m0 : Int, m0 = dayOn y (Hf.m h) (Hf.k h) (Hf.w h) (Hf.n h) → ∀ m1 : Int, m1 = 0 → brc (decide (-10000000000 ≤ m0 ∧ m0 ≤ 10000000000 ∧ 0 ≤ Hf.s h ∧ Hf.s h ≤ 86400 ∧ -50400 ≤ off ∧ off ≤ 50400 ∧ 0 ≤ Hf.v o ∧ Hf.v o ≤ 7200)) (∀ m2 : Int, m2 = inst m0 (Hf.s h) (Hf.c h) off (Hf.v o) → K (AV.agg [.int .i64 m2, .int .i64 (IntKind.wrap .i64 (off + Hf.v h)), .bool (Hf.v h != 0), .str (Hf.ab h)])) False) False) := by kernel_rfl
theorem cyRshift_ok : COk Tryz.prog 154 cyRshift := af_con (kD cyDayR_ok (kD cyInstR_ok bE)) (by kernel_rfl) fun args p v hc hp => by
 unfold cyRshift at hc
 split at hc
 case h_2 => cases hc
 split at hc
 case h_2 => cases hc
 rename_i off y _ _ h o hl hm
 simp only [Option.some.injEq, Prod.mk.injEq] at hc
 obtain ⟨rfl, rfl⟩ := hc
 obtain ⟨h1, h2, h3, h4, h5, h6⟩ := of_decide_eq_true hp
 rw [rdH_ok hl, rdH_ok hm]
 refine ⟨rfl, 6, ?_⟩
 rw [rshift_vc]
 refine brcT (decide_eq_true ⟨h5, h6, h1.1, h1.2.1, h1.2.2.1⟩) ?_
 rintro _ rfl _ rfl
 refine brcT (decide_eq_true (day_in h1 h2 h3 h4 h5 h6)) ?_
 rintro _ rfl
 rw [wv (by have := h1.2.2.2.2; omega) (by have := h1.2.2.2.2; omega), bne_dec]
 rfl
end
end Go.Proofs.YtimgphlfaninnaaGreat.P
namespace Go.Proofs.YtimgphlfaninnaaGreat.P
open Go Go.RowKit Go.Proofs.YtimgphlfaninnaaGreat.Civ Go.Proofs.YtimgphlfaninnaaGreat.Ft
set_option linter.unusedVariables false
set_option linter.unusedSimpArgs false
set_option maxHeartbeats 4000000
set_option maxRecDepth 100000
open A in
theorem hv_ck (k : Bool) (w : World) : (Instr.checkKey false 10000 4 (.bool k)).run Tryz.prog w = .ok () w :=
 checkKey_ok (P := Tryz.prog) (ρ := noNames) (W := w) (k := .bool k) (kt := 4) (by kernel_rfl) (.bool k) false 9999 w
theorem hv_find0 (k : Bool) (w : World) : (Instr.findKey 4 (.bool k) []).run Tryz.prog w = .ok none w :=
 Go.MapKept.run_findKey (d := .bool) (by kernel_rfl) rfl
theorem hv_find1 (k : Bool) (v : Value) (w : World) : (Instr.findKey 4 (.bool !k) [⟨.bool k, v, 0⟩]).run Tryz.prog w = .ok none w :=
 Go.MapKept.run_findKey (d := .bool) (by kernel_rfl) (by cases k <;> rfl)
theorem hv_up (r : Nat) (k : Bool) (u : Value) (es : Array MapEntry) (c : Nat) (w : World) (hb : w.heap[r]? = some (.map es c)) (hf : (Instr.findKey 4 (.bool k) es.toList).run Tryz.prog w = .ok none w) :
 (Instr.mapUpdate 195 (.map (some r)) (.bool k) u).run Tryz.prog w = .ok () { w with heap := w.heap.setIfInBounds r (.map (es.push ⟨.bool k, u, c⟩) (c + 1)) } := by
 have hu : Tryz.prog.underlying 195 = some (.map 4 40) := by kernel_rfl
 have hget : (getObj r).run Tryz.prog w = .ok (.map es c) w := by simp [getObj, Sem.run, hb]
 have hset : ∀ ob, (setObj r ob).run Tryz.prog w = .ok () { w with heap := w.heap.setIfInBounds r ob } := fun ob => by simp [setObj, Sem.run, hb]
 simp only [Instr.mapUpdate, Sem.run_bind, run_underlying hu, Result.andThen_ok, hget, hv_ck, hf, hset]
theorem hv_set (w : World) (ob ob' : Obj) (cs : Array Value) : { ((w.alloc (.cells cs 42)).alloc ob).drew with heap := ((w.alloc (.cells cs 42)).alloc ob).drew.heap.setIfInBounds (w.heap.size + 1) ob' } = ((w.alloc (.cells cs 42)).alloc ob').drew := by
 have e : ((w.heap.push (Obj.cells cs 42)).push ob).setIfInBounds (w.heap.size + 1) ob' = (w.heap.push (Obj.cells cs 42)).push ob' := by
  apply Array.ext'
  simp [List.set_append]
 simp only [World.alloc, World.drew, e]
theorem hv_at (w : World) (ob : Obj) (cs : Array Value) : ((w.alloc (.cells cs 42)).alloc ob).drew.heap[w.heap.size + 1]? = some ob := by
 show ((w.heap.push (Obj.cells cs 42)).push ob)[w.heap.size + 1]? = some ob
 rw [Array.getElem?_push, if_pos (by simp)]
theorem hv_first (w : World) (cs : Array Value) (k : Bool) (v : Value) :
 (Instr.mapUpdate 195 (.map (some (w.heap.size + 1))) (.bool k) v).run Tryz.prog ((w.alloc (.cells cs 42)).alloc (.map #[] 0)).drew = .ok () ((w.alloc (.cells cs 42)).alloc (.map #[⟨.bool k, v, 0⟩] 1)).drew := by
 rw [hv_up _ _ _ _ _ _ (hv_at w _ cs) (hv_find0 k _), hv_set]; rfl
theorem hv_second (w : World) (cs : Array Value) (k : Bool) (v u : Value) :
 (Instr.mapUpdate 195 (.map (some (w.heap.size + 1))) (.bool !k) u).run Tryz.prog ((w.alloc (.cells cs 42)).alloc (.map #[⟨.bool k, v, 0⟩] 1)).drew = .ok () ((w.alloc (.cells cs 42)).alloc (.map #[⟨.bool k, v, 0⟩, ⟨.bool !k, u, 1⟩] 2)).drew := by
 rw [hv_up _ _ _ _ _ _ (hv_at w _ cs) (hv_find1 k v _), hv_set]; rfl
def HvIs (k : Bool) (a b : Value) (w : World) (e : Ending) (w' : World) : Prop :=
 ∃ r, e = .returned (.map (some r)) ∧ w.heap.size ≤ r ∧ Below w.heap.size w w' ∧ (w'.heap[r]? = some (.map #[⟨.bool k, a, 0⟩, ⟨.bool !k, b, 1⟩] 2) ∨ w'.heap[r]? = some (.map #[⟨.bool !k, b, 0⟩, ⟨.bool k, a, 1⟩] 2))
theorem hv_is1 {k : Bool} {a b : Value} {w : World} {cs : Array Value} : HvIs k a b w (.returned (.map (some (w.heap.size + 1)))) ((w.alloc (.cells cs 42)).alloc (.map #[⟨.bool k, a, 0⟩, ⟨.bool !k, b, 1⟩] 2)).drew :=
 ⟨_, rfl, by omega, (((Below.refl _ w).alloc (Nat.le_refl _) _).alloc (by simp) _).drew, .inl (hv_at w _ cs)⟩
theorem hv_is2 {k : Bool} {a b : Value} {w : World} {cs : Array Value} : HvIs k a b w (.returned (.map (some (w.heap.size + 1)))) ((w.alloc (.cells cs 42)).alloc (.map #[⟨.bool !k, b, 0⟩, ⟨.bool k, a, 1⟩] 2)).drew :=
 ⟨_, rfl, by omega, (((Below.refl _ w).alloc (Nat.le_refl _) _).alloc (by simp) _).drew, .inr (hv_at w _ cs)⟩
theorem halves_calls (z : Bool) (fr off m1 k1 w1 n1 s1 c1 v1 m2 k2 w2 n2 s2 c2 v2 : Int) (b1 b2 : ByteArray) (w : World) :
 Calls Tryz.prog 175 #[.agg #[.bool z, .int .i64 fr, .int .i64 off, .int .i64 m1, .int .i64 k1, .int .i64 w1, .int .i64 n1, .int .i64 s1, .int .u8 c1, .int .i64 v1, .string b1, .int .i64 m2, .int .i64 k2, .int .i64 w2, .int .i64 n2, .int .i64 s2, .int .u8 c2, .int .i64 v2, .string b2]] w
  (HvIs (decide (m1 < m2)) (.agg #[.int .i64 m1, .int .i64 k1, .int .i64 w1, .int .i64 n1, .int .i64 s1, .int .u8 c1, .int .i64 v1, .string b1]) (.agg #[.int .i64 m2, .int .i64 k2, .int .i64 w2, .int .i64 n2, .int .i64 s2, .int .u8 c2, .int .i64 v2, .string b2]) w) := by
 have hmm := @run_makeMap Tryz.prog
 have h1 := hv_first
 have h2 := hv_second
 have h3 : ∀ (w : World) (cs : Array Value) (k : Bool) (v u : Value),
  (Instr.mapUpdate 195 (.map (some (w.heap.size + 1))) (.bool k) u).run Tryz.prog ((w.alloc (.cells cs 42)).alloc (.map #[⟨.bool !k, v, 0⟩] 1)).drew = .ok () ((w.alloc (.cells cs 42)).alloc (.map #[⟨.bool !k, v, 0⟩, ⟨.bool k, u, 1⟩] 2)).drew := fun w cs k v u => by have := hv_second w cs (!k) v u; simpa using this
 obtain ⟨c, hc⟩ : ∃ c, decide (m1 < m2) = c := ⟨_, rfl⟩
 rw [hc]
 go_enter Tryz.func175, Tryz.ntmps175
 go_wp2
 go_region
 · go_wp2
   go_ret
   exact hv_is1
 · go_wp2
   go_ret
   exact hv_is2
section
open A
def hvK (E L : List AV) (h : Heap) (K : AV → Heap → Prop) : Prop :=
 K (.mp h.length) (h ++ [some (.mapo [(.bool true, .agg E), (.bool false, .agg L)] 2)]) ∧ K (.mp h.length) (h ++ [some (.mapo [(.bool false, .agg L), (.bool true, .agg E)] 2)])
noncomputable def inlH (T : Tab) (n : Nat) : Inl Prop := fun o e h K =>
 match callOf Tryz.prog o e with
 | some (g, args) =>
  if g = 175 then
   match args with
   | [.agg [.bool z, .int .i64 fr, .int .i64 off, .int .i64 m1, .int .i64 k1, .int .i64 w1, .int .i64 n1, .int .i64 s1, .int .u8 c1, .int .i64 v1, .str b1, .int .i64 m2, .int .i64 k2, .int .i64 w2, .int .i64 n2, .int .i64 s2, .int .u8 c2, .int .i64 v2, .str b2]] =>
    brc (decide (m1 < m2)) (hvK [.int .i64 m1, .int .i64 k1, .int .i64 w1, .int .i64 n1, .int .i64 s1, .int .u8 c1, .int .i64 v1, .str b1] [.int .i64 m2, .int .i64 k2, .int .i64 w2, .int .i64 n2, .int .i64 s2, .int .u8 c2, .int .i64 v2, .str b2] h K)
     (hvK [.int .i64 m2, .int .i64 k2, .int .i64 w2, .int .i64 n2, .int .i64 s2, .int .u8 c2, .int .i64 v2, .str b2] [.int .i64 m1, .int .i64 k1, .int .i64 w1, .int .i64 n1, .int .i64 s1, .int .u8 c1, .int .i64 v1, .str b1] h K)
   | _ => False
  else ainl PA Tryz.prog T n o e h K
 | none => ainl PA Tryz.prog T n o e h K
theorem hv_named {ρ : Names} {W w w' : World} {h : Heap} (hR : Rel ρ W h w) {r : Nat} (hr : w.heap.size ≤ r) (hB : Below w.heap.size w w') {es : List (AV × AV)} {L : Array MapEntry} {c : Nat} (hL : w'.heap[r]? = some (.map L c)) (hE : RE noNames W es L.toList) :
 ∃ ρ', Ext ρ ρ' ∧ RV ρ' W (.mp h.length) (.map (some r)) ∧ Rel ρ' W (h ++ [some (.mapo es c)]) w' := by
 have h1 := hR.below hB
 have hl : r < w'.heap.size := (Array.getElem?_eq_some_iff.1 hL).1
 have hf : Fresh h h.length := .inl rfl
 have hn := h1.free_none hf
 refine ⟨ρ.with h.length r 0, Names.with_ext hn, .mp (o := 0) (by simp [Names.with]), ?_⟩
 have := h1.name (x := .mapo es c) hf hl (b := r) (o := 0) ⟨Nat.le_trans hR.bel.size hr, L.toList, by simpa using hL, hE.ext (Ext.none _)⟩ fun m p y hm hp hy => by
  have := (hR.dom m p hm).2
  omega
 simpa [effH] using this
theorem inlH_ok {T : Tab} (hT : TabOk Tryz.prog T) (n : Nat) : InlOk Tryz.prog (inlH T n) := by
 intro o e h Kx hq ρ W w a hR he K Q hK r dp
 have base : ainl PA Tryz.prog T n o e h Kx → o.wpIn (FR r) dp Tryz.prog a w K Q := fun h1 => (all_ok mixed hT n).2.1 o e h Kx h1 ρ W w a hR he K Q hK r dp
 unfold inlH at hq
 split at hq
 case h_2 => exact base hq
 rename_i g args hta
 split at hq
 case isFalse => exact base hq
 rename_i hg
 subst hg
 split at hq
 case h_2 => exact hq.elim
 rename_i z fr off m1 k1 w1 n1 s1 c1 v1 b1 m2 k2 w2 n2 s2 c2 v2 b2
 obtain ⟨c, hc, hta⟩ := callOf_ok hta
 obtain ⟨A, hA, hrun⟩ := target_ok (P := Tryz.prog) he hta o.type
 obtain rfl : A = [.agg #[.bool z, .int .i64 fr, .int .i64 off, .int .i64 m1, .int .i64 k1, .int .i64 w1, .int .i64 n1, .int .i64 s1, .int .u8 c1, .int .i64 v1, .string b1, .int .i64 m2, .int .i64 k2, .int .i64 w2, .int .i64 n2, .int .i64 s2, .int .u8 c2, .int .i64 v2, .string b2]] := by
  simpa [kG, kL, kM, kN, kZ, kV] using hA
 have hcalls := halves_calls z fr off m1 k1 w1 n1 s1 c1 v1 m2 k2 w2 n2 s2 c2 v2 b1 b2 w
 refine wpIn_of_wp (fun c' e' => by rw [hc] at e'; cases e') (wp_gives (R := fun V w' => ∃ ρ' v h', Ext ρ ρ' ∧ RV ρ' W v V ∧ Rel ρ' W h' w' ∧ Kx v h') (.inl ⟨zM Tryz.func175 (by kernel_rfl) (by kernel_rfl) _ _, hcalls.mono fun e' w' he' => ?_⟩) (by simp only [execOp, hc]; exact hrun w) fun V w' hVw => ?_)
 · obtain ⟨r', rfl, h1, h2, h3⟩ := he'
   have e1 : ∀ (b : Bool) (x y : List AV) (X Y : List Value) (i j : Nat), RL noNames W x X → RL noNames W y Y → RE noNames W [(.bool b, .agg x), (.bool !b, .agg y)] [⟨.bool b, .agg X.toArray, i⟩, ⟨.bool !b, .agg Y.toArray, j⟩] := fun b x y X Y i j hx hy => .cons (.bool _) (.agg hx) (.cons (.bool _) (.agg hy) .nil)
   have hx : RL noNames W [.int .i64 m1, .int .i64 k1, .int .i64 w1, .int .i64 n1, .int .i64 s1, .int .u8 c1, .int .i64 v1, .str b1] [.int .i64 m1, .int .i64 k1, .int .i64 w1, .int .i64 n1, .int .i64 s1, .int .u8 c1, .int .i64 v1, .string b1] := .cons (.int _ _) (.cons (.int _ _) (.cons (.int _ _) (.cons (.int _ _) (.cons (.int _ _) (.cons (.int _ _) (.cons (.int _ _) (.cons (.str _) .nil)))))))
   have hy : RL noNames W [.int .i64 m2, .int .i64 k2, .int .i64 w2, .int .i64 n2, .int .i64 s2, .int .u8 c2, .int .i64 v2, .str b2] [.int .i64 m2, .int .i64 k2, .int .i64 w2, .int .i64 n2, .int .i64 s2, .int .u8 c2, .int .i64 v2, .string b2] := .cons (.int _ _) (.cons (.int _ _) (.cons (.int _ _) (.cons (.int _ _) (.cons (.int _ _) (.cons (.int _ _) (.cons (.int _ _) (.cons (.str _) .nil)))))))
   have key : ∀ (es : List (AV × AV)) (L : Array MapEntry), w'.heap[r']? = some (.map L 2) → RE noNames W es L.toList → Kx (.mp h.length) (h ++ [some (.mapo es 2)]) → ∃ V, Ending.returned (.map (some r')) = .returned V ∧ ∃ ρ' v h', Ext ρ ρ' ∧ RV ρ' W v V ∧ Rel ρ' W h' w' ∧ Kx v h' := fun es L hL hE hk => by
    obtain ⟨ρ', g1, g2, g3⟩ := hv_named hR h1 h2 hL hE
    exact ⟨_, rfl, ρ', _, _, g1, g2, g3, hk⟩
   by_cases hm : m1 < m2
   · obtain ⟨q1, q2⟩ := (jS.1 hq).1 (decide_eq_true hm)
     rw [decide_eq_true hm] at h3
     rcases h3 with h3 | h3
     · exact key _ _ h3 (e1 true _ _ _ _ 0 1 hx hy) q1
     · exact key _ _ h3 (e1 false _ _ _ _ 0 1 hy hx) q2
   · obtain ⟨q1, q2⟩ := (jS.1 hq).2 (decide_eq_false hm)
     rw [decide_eq_false hm] at h3
     rcases h3 with h3 | h3
     · exact key _ _ h3 (e1 false _ _ _ _ 0 1 hx hy) q2
     · exact key _ _ h3 (e1 true _ _ _ _ 0 1 hy hx) q1
 · obtain ⟨ρ', v, h', g1, g2, g3, g4⟩ := hVw
   exact hK ρ' V w' v h' g1 g2 g3 g4
@[irreducible] def AH (T : Tab) (n : Nat) (args : List AV) (K : AV → Prop) : Prop :=
 match Tryz.prog.funcs[165]? with
 | some fn => bodyA PA Tryz.prog T noLoops (alp PA Tryz.prog T (noRf PA) n) (inlH T n) (noRf PA) fn args [] fun u _ => K u
 | none => False
theorem ah_gives {T : Tab} (hT : TabOk Tryz.prog T) {args : List AV} {v : AV} (hfl : v.flat 4 = true) {n : Nat} (h2 : AH T n args fun u => u = v) {w : World} {A : List Value} (hA : RL noNames w args A) : Gives Tryz.prog 165 A.toArray w fun V w' => (RV noNames w' v V ∧ Below w.heap.size w w') ∧ Fr w.heap.size 4 v V := by
 unfold AH at h2
 rw [Tryz.func165] at h2
 have h3 := body_ok (g := 165) Tryz.func165 (fun c _ => codeA_ok0 mixed hT ((all_ok mixed hT n).1 none _ (noRf_ok Tryz.prog _)) (inlH_ok hT n) (noRf_ok Tryz.prog _) c) hA (Rel.start w) h2
 refine .inl ⟨zM Tryz.func165 (by kernel_rfl) (by kernel_rfl) _ _, h3.mono fun e w' he => ?_⟩
 obtain ⟨V, g1, ρ', u, h', _, g2, g3, rfl⟩ := he
 exact ⟨V, g1, ⟨g2.flat_move 4 hfl, g3.bel⟩, Fr.flat 4 hfl⟩
set_option maxRecDepth 100000 in
theorem shift_true_vc (F : Ft) (y : Int) (K : AV → Prop) : AH (tab [(176, cyDay), (177, cyInst)]) 6 [.agg (avF F), .int .i64 y, .bool true] K =
 (brc (decide (Hf.m (Ft.a F) < Hf.m (Ft.b F))) (brc (decide (-4718 < y ∧ y < 294282 ∧ 1 ≤ Hf.m (Ft.a F) ∧ Hf.m (Ft.a F) ≤ 12 ∧ OnOk (Hf.k (Ft.a F)) (Hf.w (Ft.a F)) (Hf.n (Ft.a F)))) (∀ m0 : Int, m0 = dayOn y (Hf.m (Ft.a F)) (Hf.k (Ft.a F)) (Hf.w (Ft.a F)) (Hf.n (Ft.a F)) → ∀ m1 : Int, m1 = 0 → brc (decide (-10000000000 ≤ m0 ∧ m0 ≤ 10000000000 ∧ 0 ≤ Hf.s (Ft.a F) ∧ Hf.s (Ft.a F) ≤ 86400 ∧ -50400 ≤ Ft.off F ∧ Ft.off F ≤ 50400 ∧ 0 ≤ Hf.v (Ft.b F) ∧ Hf.v (Ft.b F) ≤ 7200)) (∀ m2 : Int, m2 = inst m0 (Hf.s (Ft.a F)) (Hf.c (Ft.a F)) (Ft.off F) (Hf.v (Ft.b F)) → K (AV.agg [.int .i64 m2, .int .i64 (IntKind.wrap .i64 (Ft.off F + Hf.v (Ft.a F))), .bool (Hf.v (Ft.a F) != 0), .str (Hf.ab (Ft.a F))])) False) False ∧ brc (decide (-4718 < y ∧ y < 294282 ∧ 1 ≤ Hf.m (Ft.a F) ∧ Hf.m (Ft.a F) ≤ 12 ∧ OnOk (Hf.k (Ft.a F)) (Hf.w (Ft.a F)) (Hf.n (Ft.a F)))) (∀ m0 : Int, m0 = dayOn y (Hf.m (Ft.a F)) (Hf.k (Ft.a F)) (Hf.w (Ft.a F)) (Hf.n (Ft.a F)) → ∀ m1 : Int, m1 = 0 → brc (decide (-10000000000 ≤ m0 ∧ m0 ≤ 10000000000 ∧ 0 ≤ Hf.s (Ft.a F) ∧ Hf.s (Ft.a F) ≤ 86400 ∧ -50400 ≤ Ft.off F ∧ Ft.off F ≤ 50400 ∧ 0 ≤ Hf.v (Ft.b F) ∧ Hf.v (Ft.b F) ≤ 7200)) (∀ m2 : Int, m2 = inst m0 (Hf.s (Ft.a F)) (Hf.c (Ft.a F)) (Ft.off F) (Hf.v (Ft.b F)) → K (AV.agg [.int .i64 m2, .int .i64 (IntKind.wrap .i64 (Ft.off F + Hf.v (Ft.a F))), .bool (Hf.v (Ft.a F) != 0), .str (Hf.ab (Ft.a F))])) False) False) (brc (decide (-4718 < y ∧ y < 294282 ∧ 1 ≤ Hf.m (Ft.b F) ∧ Hf.m (Ft.b F) ≤ 12 ∧ OnOk (Hf.k (Ft.b F)) (Hf.w (Ft.b F)) (Hf.n (Ft.b F)))) (∀ m0 : Int, m0 = dayOn y (Hf.m (Ft.b F)) (Hf.k (Ft.b F)) (Hf.w (Ft.b F)) (Hf.n (Ft.b F)) → ∀ m1 : Int, m1 = 0 → brc (decide (-10000000000 ≤ m0 ∧ m0 ≤ 10000000000 ∧ 0 ≤ Hf.s (Ft.b F) ∧ Hf.s (Ft.b F) ≤ 86400 ∧ -50400 ≤ Ft.off F ∧ Ft.off F ≤ 50400 ∧ 0 ≤ Hf.v (Ft.a F) ∧ Hf.v (Ft.a F) ≤ 7200)) (∀ m2 : Int, m2 = inst m0 (Hf.s (Ft.b F)) (Hf.c (Ft.b F)) (Ft.off F) (Hf.v (Ft.a F)) → K (AV.agg [.int .i64 m2, .int .i64 (IntKind.wrap .i64 (Ft.off F + Hf.v (Ft.b F))), .bool (Hf.v (Ft.b F) != 0), .str (Hf.ab (Ft.b F))])) False) False ∧ brc (decide (-4718 < y ∧ y < 294282 ∧ 1 ≤ Hf.m (Ft.b F) ∧ Hf.m (Ft.b F) ≤ 12 ∧ OnOk (Hf.k (Ft.b F)) (Hf.w (Ft.b F)) (Hf.n (Ft.b F)))) (∀ m0 : Int, m0 = dayOn y (Hf.m (Ft.b F)) (Hf.k (Ft.b F)) (Hf.w (Ft.b F)) (Hf.n (Ft.b F)) → ∀ m1 : Int, m1 = 0 → brc (decide (-10000000000 ≤ m0 ∧ m0 ≤ 10000000000 ∧ 0 ≤ Hf.s (Ft.b F) ∧ Hf.s (Ft.b F) ≤ 86400 ∧ -50400 ≤ Ft.off F ∧ Ft.off F ≤ 50400 ∧ 0 ≤ Hf.v (Ft.a F) ∧ Hf.v (Ft.a F) ≤ 7200)) (∀ m2 : Int, m2 = inst m0 (Hf.s (Ft.b F)) (Hf.c (Ft.b F)) (Ft.off F) (Hf.v (Ft.a F)) → K (AV.agg [.int .i64 m2, .int .i64 (IntKind.wrap .i64 (Ft.off F + Hf.v (Ft.b F))), .bool (Hf.v (Ft.b F) != 0), .str (Hf.ab (Ft.b F))])) False) False)) := by kernel_rfl
set_option maxRecDepth 100000 in
theorem shift_false_vc (F : Ft) (y : Int) (K : AV → Prop) : AH (tab [(176, cyDay), (177, cyInst)]) 6 [.agg (avF F), .int .i64 y, .bool false] K =
 (brc (decide (Hf.m (Ft.a F) < Hf.m (Ft.b F))) (brc (decide (-4718 < y ∧ y < 294282 ∧ 1 ≤ Hf.m (Ft.b F) ∧ Hf.m (Ft.b F) ≤ 12 ∧ OnOk (Hf.k (Ft.b F)) (Hf.w (Ft.b F)) (Hf.n (Ft.b F)))) (∀ m0 : Int, m0 = dayOn y (Hf.m (Ft.b F)) (Hf.k (Ft.b F)) (Hf.w (Ft.b F)) (Hf.n (Ft.b F)) → ∀ m1 : Int, m1 = 0 → brc (decide (-10000000000 ≤ m0 ∧ m0 ≤ 10000000000 ∧ 0 ≤ Hf.s (Ft.b F) ∧ Hf.s (Ft.b F) ≤ 86400 ∧ -50400 ≤ Ft.off F ∧ Ft.off F ≤ 50400 ∧ 0 ≤ Hf.v (Ft.a F) ∧ Hf.v (Ft.a F) ≤ 7200)) (∀ m2 : Int, m2 = inst m0 (Hf.s (Ft.b F)) (Hf.c (Ft.b F)) (Ft.off F) (Hf.v (Ft.a F)) → K (AV.agg [.int .i64 m2, .int .i64 (IntKind.wrap .i64 (Ft.off F + Hf.v (Ft.b F))), .bool (Hf.v (Ft.b F) != 0), .str (Hf.ab (Ft.b F))])) False) False ∧ brc (decide (-4718 < y ∧ y < 294282 ∧ 1 ≤ Hf.m (Ft.b F) ∧ Hf.m (Ft.b F) ≤ 12 ∧ OnOk (Hf.k (Ft.b F)) (Hf.w (Ft.b F)) (Hf.n (Ft.b F)))) (∀ m0 : Int, m0 = dayOn y (Hf.m (Ft.b F)) (Hf.k (Ft.b F)) (Hf.w (Ft.b F)) (Hf.n (Ft.b F)) → ∀ m1 : Int, m1 = 0 → brc (decide (-10000000000 ≤ m0 ∧ m0 ≤ 10000000000 ∧ 0 ≤ Hf.s (Ft.b F) ∧ Hf.s (Ft.b F) ≤ 86400 ∧ -50400 ≤ Ft.off F ∧ Ft.off F ≤ 50400 ∧ 0 ≤ Hf.v (Ft.a F) ∧ Hf.v (Ft.a F) ≤ 7200)) (∀ m2 : Int, m2 = inst m0 (Hf.s (Ft.b F)) (Hf.c (Ft.b F)) (Ft.off F) (Hf.v (Ft.a F)) → K (AV.agg [.int .i64 m2, .int .i64 (IntKind.wrap .i64 (Ft.off F + Hf.v (Ft.b F))), .bool (Hf.v (Ft.b F) != 0), .str (Hf.ab (Ft.b F))])) False) False) (brc (decide (-4718 < y ∧ y < 294282 ∧ 1 ≤ Hf.m (Ft.a F) ∧ Hf.m (Ft.a F) ≤ 12 ∧ OnOk (Hf.k (Ft.a F)) (Hf.w (Ft.a F)) (Hf.n (Ft.a F)))) (∀ m0 : Int, m0 = dayOn y (Hf.m (Ft.a F)) (Hf.k (Ft.a F)) (Hf.w (Ft.a F)) (Hf.n (Ft.a F)) → ∀ m1 : Int, m1 = 0 → brc (decide (-10000000000 ≤ m0 ∧ m0 ≤ 10000000000 ∧ 0 ≤ Hf.s (Ft.a F) ∧ Hf.s (Ft.a F) ≤ 86400 ∧ -50400 ≤ Ft.off F ∧ Ft.off F ≤ 50400 ∧ 0 ≤ Hf.v (Ft.b F) ∧ Hf.v (Ft.b F) ≤ 7200)) (∀ m2 : Int, m2 = inst m0 (Hf.s (Ft.a F)) (Hf.c (Ft.a F)) (Ft.off F) (Hf.v (Ft.b F)) → K (AV.agg [.int .i64 m2, .int .i64 (IntKind.wrap .i64 (Ft.off F + Hf.v (Ft.a F))), .bool (Hf.v (Ft.a F) != 0), .str (Hf.ab (Ft.a F))])) False) False ∧ brc (decide (-4718 < y ∧ y < 294282 ∧ 1 ≤ Hf.m (Ft.a F) ∧ Hf.m (Ft.a F) ≤ 12 ∧ OnOk (Hf.k (Ft.a F)) (Hf.w (Ft.a F)) (Hf.n (Ft.a F)))) (∀ m0 : Int, m0 = dayOn y (Hf.m (Ft.a F)) (Hf.k (Ft.a F)) (Hf.w (Ft.a F)) (Hf.n (Ft.a F)) → ∀ m1 : Int, m1 = 0 → brc (decide (-10000000000 ≤ m0 ∧ m0 ≤ 10000000000 ∧ 0 ≤ Hf.s (Ft.a F) ∧ Hf.s (Ft.a F) ≤ 86400 ∧ -50400 ≤ Ft.off F ∧ Ft.off F ≤ 50400 ∧ 0 ≤ Hf.v (Ft.b F) ∧ Hf.v (Ft.b F) ≤ 7200)) (∀ m2 : Int, m2 = inst m0 (Hf.s (Ft.a F)) (Hf.c (Ft.a F)) (Ft.off F) (Hf.v (Ft.b F)) → K (AV.agg [.int .i64 m2, .int .i64 (IntKind.wrap .i64 (Ft.off F + Hf.v (Ft.a F))), .bool (Hf.v (Ft.a F) != 0), .str (Hf.ab (Ft.a F))])) False) False)) := by kernel_rfl
theorem sh_blk {h o : Hf} {off y : Int} {v : AV} (h1 : HfOk h) (h2 : HfOk o) (h3 : -50400 ≤ off) (h4 : off ≤ 50400) (h5 : -4718 < y) (h6 : y < 294282) (hv : AV.agg (avT (tran h o off y)) = v) :
 brc (decide (-4718 < y ∧ y < 294282 ∧ 1 ≤ h.m ∧ h.m ≤ 12 ∧ OnOk h.k h.w h.n)) (∀ m0 : Int, m0 = dayOn y h.m h.k h.w h.n → ∀ m1 : Int, m1 = 0 → brc (decide (-10000000000 ≤ m0 ∧ m0 ≤ 10000000000 ∧ 0 ≤ h.s ∧ h.s ≤ 86400 ∧ -50400 ≤ off ∧ off ≤ 50400 ∧ 0 ≤ o.v ∧ o.v ≤ 7200)) (∀ m2 : Int, m2 = inst m0 h.s h.c off o.v → AV.agg [.int .i64 m2, .int .i64 (IntKind.wrap .i64 (off + h.v)), .bool (h.v != 0), .str h.ab] = v) False) False := by
 refine brcT (decide_eq_true ⟨h5, h6, h1.1, h1.2.1, h1.2.2.1⟩) ?_
 rintro _ rfl _ rfl
 refine brcT (decide_eq_true (day_in h1 h2 h3 h4 h5 h6)) ?_
 rintro _ rfl
 rw [wv (by have := h1.2.2.2.2; omega) (by have := h1.2.2.2.2; omega), bne_dec]
 exact hv
theorem cyShift_ok : COk Tryz.prog 165 cyShift := by
 intro args p v hc hp w A hA
 unfold cyShift at hc
 split at hc
 case h_2 => cases hc
 split at hc
 case h_2 => cases hc
 rename_i y b _ F hl
 simp only [Option.some.injEq, Prod.mk.injEq] at hc
 obtain ⟨rfl, rfl⟩ := hc
 obtain ⟨h0, h5, h6⟩ := of_decide_eq_true hp
 obtain ⟨_, h1, h2, h3, h4, _⟩ := h0
 rw [rdF_ok hl] at hA
 have hT : TabOk Tryz.prog (tab [(176, cyDay), (177, cyInst)]) := kD cyDay_ok (kD cyInst_ok bE)
 cases b
 · refine ah_gives hT rfl (n := 6) ?_ hA
   rw [shift_false_vc]
   refine kB (fun hm => ?_) fun hm => ?_
   · have hm := of_decide_eq_true hm
     have e : AV.agg (avT (tran F.b F.a F.off y)) = AV.agg (avT (tr F false y)) := by simp [tr, fstH, sndH, hm]
     exact ⟨sh_blk h2 h1 h3 h4 h5 h6 e, sh_blk h2 h1 h3 h4 h5 h6 e⟩
   · have hm := of_decide_eq_false hm
     have e : AV.agg (avT (tran F.a F.b F.off y)) = AV.agg (avT (tr F false y)) := by simp [tr, fstH, sndH, hm]
     exact ⟨sh_blk h1 h2 h3 h4 h5 h6 e, sh_blk h1 h2 h3 h4 h5 h6 e⟩
 · refine ah_gives hT rfl (n := 6) ?_ hA
   rw [shift_true_vc]
   refine kB (fun hm => ?_) fun hm => ?_
   · have hm := of_decide_eq_true hm
     have e : AV.agg (avT (tran F.a F.b F.off y)) = AV.agg (avT (tr F true y)) := by simp [tr, fstH, sndH, hm]
     exact ⟨sh_blk h1 h2 h3 h4 h5 h6 e, sh_blk h1 h2 h3 h4 h5 h6 e⟩
   · have hm := of_decide_eq_false hm
     have e : AV.agg (avT (tran F.b F.a F.off y)) = AV.agg (avT (tr F true y)) := by simp [tr, fstH, sndH, hm]
     exact ⟨sh_blk h2 h1 h3 h4 h5 h6 e, sh_blk h2 h1 h3 h4 h5 h6 e⟩
end
end Go.Proofs.YtimgphlfaninnaaGreat.P
namespace Go.Proofs.YtimgphlfaninnaaGreat.P
open Go Go.RowKit Go.Proofs.YtimgphlfaninnaaGreat.Civ Go.Proofs.YtimgphlfaninnaaGreat.Ft
set_option linter.unusedVariables false
set_option linter.unusedSimpArgs false
section
open A
def isTwo (n : Int) : Option (Bool × AV) → Bool
 | some (true, .str s) => decide (s.data.toList = (two n).data.toList)
 | _ => false
set_option maxRecDepth 100000 in
theorem two_all : (List.range 100).all (fun n => isTwo n (runC Tryz.prog 30 (tab []) 187 [.int .i64 (n : Int)])) = true := by kernel_rfl
theorem two_run {n : Int} (h : 0 ≤ n ∧ n ≤ 99) : runC Tryz.prog 30 (tab []) 187 [.int .i64 n] = some (true, .str (two n)) := by
 have a := List.all_eq_true.1 two_all n.toNat (by rw [List.mem_range]; omega)
 rw [show ((n.toNat : Nat) : Int) = n by omega] at a
 generalize runC Tryz.prog 30 (tab []) 187 [.int .i64 n] = r at *
 unfold isTwo at a
 split at a
 · rename_i s
   have e := of_decide_eq_true a
   have : s = two n := by
    obtain ⟨⟨l⟩⟩ := s
    simp only at e
    rw [e]
   rw [this]
 · cases a
theorem cyTwo_ok : COk Tryz.prog 187 cyTwo := by
 intro args p v hc hp w A hA
 unfold cyTwo at hc
 split at hc
 case h_2 => cases hc
 simp only [Option.some.injEq, Prod.mk.injEq] at hc
 obtain ⟨rfl, rfl⟩ := hc
 exact runC_ok mixed 30 bE _ _ true _ (two_run (of_decide_eq_true hp)) rfl w A hA
theorem ba_size (a : Array UInt8) : (ByteArray.mk a).size = a.size := rfl
theorem two_size (n : Int) : (two n).size = 2 := rfl
set_option maxRecDepth 100000 in
theorem form_vc (k w n : Int) (K : AV → Prop) : AF (tab []) 6 184 [.agg [.int .i64 k, .int .i64 w, .int .i64 n]] K =
 (brc (k == 0) (brc (w == 0) (brc (decide (n ≥ 1)) (brc (!decide (n ≤ 31)) (K AV.nili) (K (AV.ifc 206 (AV.int .i64 n)))) (K AV.nili)) (brc (k == 1) (brc (n == 0) (brc (decide (w ≥ 0)) (brc (!decide (w ≤ 6)) (K AV.nili) (K (AV.ifc 208 (AV.int .i64 w)))) (K AV.nili)) (brc (k == 2) (brc (decide (w ≥ 0)) (brc (decide (w ≤ 6)) (brc (decide (n ≥ 1)) (brc (!decide (n ≤ 31)) (K AV.nili) (K (AV.ifc 211 (AV.agg [.int .i64 w, .int .i64 n, .int .i64 1])))) (K AV.nili)) (K AV.nili)) (K AV.nili)) (brc (k == 3) (brc (decide (w ≥ 0)) (brc (decide (w ≤ 6)) (brc (decide (n ≥ 1)) (brc (!decide (n ≤ 31)) (K AV.nili) (K (AV.ifc 211 (AV.agg [.int .i64 w, .int .i64 n, .int .i64 (-1)])))) (K AV.nili)) (K AV.nili)) (K AV.nili)) (K AV.nili)))) (brc (k == 2) (brc (decide (w ≥ 0)) (brc (decide (w ≤ 6)) (brc (decide (n ≥ 1)) (brc (!decide (n ≤ 31)) (K AV.nili) (K (AV.ifc 211 (AV.agg [.int .i64 w, .int .i64 n, .int .i64 1])))) (K AV.nili)) (K AV.nili)) (K AV.nili)) (brc (k == 3) (brc (decide (w ≥ 0)) (brc (decide (w ≤ 6)) (brc (decide (n ≥ 1)) (brc (!decide (n ≤ 31)) (K AV.nili) (K (AV.ifc 211 (AV.agg [.int .i64 w, .int .i64 n, .int .i64 (-1)])))) (K AV.nili)) (K AV.nili)) (K AV.nili)) (K AV.nili))))) (brc (k == 1) (brc (n == 0) (brc (decide (w ≥ 0)) (brc (!decide (w ≤ 6)) (K AV.nili) (K (AV.ifc 208 (AV.int .i64 w)))) (K AV.nili)) (brc (k == 2) (brc (decide (w ≥ 0)) (brc (decide (w ≤ 6)) (brc (decide (n ≥ 1)) (brc (!decide (n ≤ 31)) (K AV.nili) (K (AV.ifc 211 (AV.agg [.int .i64 w, .int .i64 n, .int .i64 1])))) (K AV.nili)) (K AV.nili)) (K AV.nili)) (brc (k == 3) (brc (decide (w ≥ 0)) (brc (decide (w ≤ 6)) (brc (decide (n ≥ 1)) (brc (!decide (n ≤ 31)) (K AV.nili) (K (AV.ifc 211 (AV.agg [.int .i64 w, .int .i64 n, .int .i64 (-1)])))) (K AV.nili)) (K AV.nili)) (K AV.nili)) (K AV.nili)))) (brc (k == 2) (brc (decide (w ≥ 0)) (brc (decide (w ≤ 6)) (brc (decide (n ≥ 1)) (brc (!decide (n ≤ 31)) (K AV.nili) (K (AV.ifc 211 (AV.agg [.int .i64 w, .int .i64 n, .int .i64 1])))) (K AV.nili)) (K AV.nili)) (K AV.nili)) (brc (k == 3) (brc (decide (w ≥ 0)) (brc (decide (w ≤ 6)) (brc (decide (n ≥ 1)) (brc (!decide (n ≤ 31)) (K AV.nili) (K (AV.ifc 211 (AV.agg [.int .i64 w, .int .i64 n, .int .i64 (-1)])))) (K AV.nili)) (K AV.nili)) (K AV.nili)) (K AV.nili))))) := by kernel_rfl
set_option maxRecDepth 100000 in
theorem cyBad_ok : COk Tryz.prog 184 cyBad := af_con bE (by kernel_rfl) fun args p v hc hp => by
 unfold cyBad at hc
 split at hc
 case h_2 => cases hc
 rename_i k w n
 simp only [Option.some.injEq, Prod.mk.injEq] at hc
 obtain ⟨rfl, rfl⟩ := hc
 have hb := of_decide_eq_true hp
 refine ⟨rfl, 6, ?_⟩
 rw [form_vc]
 repeat' (with_reducible refine kB (fun h => ?_) (fun h => ?_))
 all_goals first
  | rfl
  | (exfalso; refine hb ?_; unfold OnOk; simp only [decide_eq_true_eq, decide_eq_false_iff_not, Bool.not_eq_true', Bool.not_eq_false', beq_iff_eq, beq_eq_false_iff_ne, bne_iff_ne, ne_eq, Bool.and_eq_true, Bool.and_eq_false_iff, Bool.true_and] at *; omega)
set_option maxRecDepth 100000 in
theorem texton_vc (k w n : Int) (K : AV → Prop) : AF (tab [(184, cyBad)]) 6 182 [.agg [.int .i64 k, .int .i64 w, .int .i64 n]] K =
 (brc (decide ¬OnOk k w n) (K (AV.tup [.str (ByteArray.mk #[]), .int .i64 1])) False) := by kernel_rfl
set_option maxRecDepth 100000 in
theorem ton00_vc (n : Int) (K : AV → Prop) : AF (tab [(187, cyTwo)]) 12 182 [.agg [.int .i64 0, .int .i64 0, .int .i64 n]] K =
 (brc (decide (n ≥ 1)) (brc (!decide (n ≤ 31)) (K (AV.tup [.str (ByteArray.mk #[]), .int .i64 1])) (brc (decide (0 ≤ n ∧ n ≤ 99)) (brc (decide (((ByteArray.size (two n) : Nat) : Int) ≥ ((ByteArray.size (ByteArray.mk #[48]) : Nat) : Int))) (brc (decide (((ByteArray.size (ByteArray.mk #[48]) : Nat) : Int) ≤ ((ByteArray.size (two n) : Nat) : Int))) (brc (ByteArray.toList (ByteArray.extract (two n) (Int.toNat 0) (Int.toNat ((ByteArray.size (ByteArray.mk #[48]) : Nat) : Int))) == ByteArray.toList (ByteArray.mk #[48])) (brc (decide (((ByteArray.size (ByteArray.mk #[48]) : Nat) : Int) ≤ ((ByteArray.size (two n) : Nat) : Int)) && decide (((ByteArray.size (two n) : Nat) : Int) ≤ ((ByteArray.size (two n) : Nat) : Int))) (K (AV.tup [.str (ByteArray.extract (two n) 1 (Int.toNat ((ByteArray.size (two n) : Nat) : Int))), .int .i64 0])) False) (K (AV.tup [.str (two n), .int .i64 0]))) False) (K (AV.tup [.str (two n), .int .i64 0]))) False)) (K (AV.tup [.str (ByteArray.mk #[]), .int .i64 1]))) := by kernel_rfl
def tonF (p : ByteArray) (n : Int) (K : AV → Prop) : Prop := brc (n == 0) (brc (decide (0 ≤ n ∧ n ≤ 99)) (brc (decide (((ByteArray.size (two n) : Nat) : Int) ≥ ((ByteArray.size (ByteArray.mk #[48]) : Nat) : Int))) (brc (decide (((ByteArray.size (ByteArray.mk #[48]) : Nat) : Int) ≤ ((ByteArray.size (two n) : Nat) : Int))) (brc (ByteArray.toList (ByteArray.extract (two n) (Int.toNat 0) (Int.toNat ((ByteArray.size (ByteArray.mk #[48]) : Nat) : Int))) == ByteArray.toList (ByteArray.mk #[48])) (brc (decide (((ByteArray.size (ByteArray.mk #[48]) : Nat) : Int) ≤ ((ByteArray.size (two n) : Nat) : Int)) && decide (((ByteArray.size (two n) : Nat) : Int) ≤ ((ByteArray.size (two n) : Nat) : Int))) (K (AV.tup [.str (p), .int .i64 0])) False) (K (AV.tup [.str (p), .int .i64 0]))) False) (K (AV.tup [.str (p), .int .i64 0]))) False) (K (AV.tup [.str (ByteArray.mk #[]), .int .i64 1]))
def tonG (p : ByteArray) (n : Int) (K : AV → Prop) : Prop := brc (decide (n ≥ 1)) (brc (!decide (n ≤ 31)) (K (AV.tup [.str (ByteArray.mk #[]), .int .i64 1])) (brc (decide (0 ≤ n ∧ n ≤ 99)) (brc (decide (((ByteArray.size (two n) : Nat) : Int) ≥ ((ByteArray.size (ByteArray.mk #[48]) : Nat) : Int))) (brc (decide (((ByteArray.size (ByteArray.mk #[48]) : Nat) : Int) ≤ ((ByteArray.size (two n) : Nat) : Int))) (brc (ByteArray.toList (ByteArray.extract (two n) (Int.toNat 0) (Int.toNat ((ByteArray.size (ByteArray.mk #[48]) : Nat) : Int))) == ByteArray.toList (ByteArray.mk #[48])) (brc (decide (((ByteArray.size (ByteArray.mk #[48]) : Nat) : Int) ≤ ((ByteArray.size (two n) : Nat) : Int)) && decide (((ByteArray.size (two n) : Nat) : Int) ≤ ((ByteArray.size (two n) : Nat) : Int))) (brc (decide (((ByteArray.size (p) + ByteArray.size (ByteArray.extract (two n) (Int.toNat ((ByteArray.size (ByteArray.mk #[48]) : Nat) : Int)) (Int.toNat ((ByteArray.size (two n) : Nat) : Int))) : Nat) : Int) ≤ IntKind.max .i64)) (K (AV.tup [.str (p ++ ByteArray.extract (two n) 1 (Int.toNat ((ByteArray.size (two n) : Nat) : Int))), .int .i64 0])) False) False) (brc (decide (((ByteArray.size (p) + ByteArray.size (two n) : Nat) : Int) ≤ IntKind.max .i64)) (K (AV.tup [.str (p ++ two n), .int .i64 0])) False)) False) (brc (decide (((ByteArray.size (p) + ByteArray.size (two n) : Nat) : Int) ≤ IntKind.max .i64)) (K (AV.tup [.str (p ++ two n), .int .i64 0])) False)) False)) (K (AV.tup [.str (ByteArray.mk #[]), .int .i64 1]))
set_option maxRecDepth 100000 in
theorem ton10_vc (n : Int) (K : AV → Prop) : AF (tab [(187, cyTwo)]) 12 182 [.agg [.int .i64 1, .int .i64 0, .int .i64 n]] K =
 (tonF ((ByteArray.mk #[108, 97, 115, 116]) ++ (ByteArray.mk #[83, 117, 110])) n K) := by kernel_rfl
set_option maxRecDepth 100000 in
theorem ton11_vc (n : Int) (K : AV → Prop) : AF (tab [(187, cyTwo)]) 12 182 [.agg [.int .i64 1, .int .i64 1, .int .i64 n]] K =
 (tonF ((ByteArray.mk #[108, 97, 115, 116]) ++ (ByteArray.mk #[77, 111, 110])) n K) := by kernel_rfl
set_option maxRecDepth 100000 in
theorem ton12_vc (n : Int) (K : AV → Prop) : AF (tab [(187, cyTwo)]) 12 182 [.agg [.int .i64 1, .int .i64 2, .int .i64 n]] K =
 (tonF ((ByteArray.mk #[108, 97, 115, 116]) ++ (ByteArray.mk #[84, 117, 101])) n K) := by kernel_rfl
set_option maxRecDepth 100000 in
theorem ton13_vc (n : Int) (K : AV → Prop) : AF (tab [(187, cyTwo)]) 12 182 [.agg [.int .i64 1, .int .i64 3, .int .i64 n]] K =
 (tonF ((ByteArray.mk #[108, 97, 115, 116]) ++ (ByteArray.mk #[87, 101, 100])) n K) := by kernel_rfl
set_option maxRecDepth 100000 in
theorem ton14_vc (n : Int) (K : AV → Prop) : AF (tab [(187, cyTwo)]) 12 182 [.agg [.int .i64 1, .int .i64 4, .int .i64 n]] K =
 (tonF ((ByteArray.mk #[108, 97, 115, 116]) ++ (ByteArray.mk #[84, 104, 117])) n K) := by kernel_rfl
set_option maxRecDepth 100000 in
theorem ton15_vc (n : Int) (K : AV → Prop) : AF (tab [(187, cyTwo)]) 12 182 [.agg [.int .i64 1, .int .i64 5, .int .i64 n]] K =
 (tonF ((ByteArray.mk #[108, 97, 115, 116]) ++ (ByteArray.mk #[70, 114, 105])) n K) := by kernel_rfl
set_option maxRecDepth 100000 in
theorem ton16_vc (n : Int) (K : AV → Prop) : AF (tab [(187, cyTwo)]) 12 182 [.agg [.int .i64 1, .int .i64 6, .int .i64 n]] K =
 (tonF ((ByteArray.mk #[108, 97, 115, 116]) ++ (ByteArray.mk #[83, 97, 116])) n K) := by kernel_rfl
set_option maxRecDepth 100000 in
theorem ton20_vc (n : Int) (K : AV → Prop) : AF (tab [(187, cyTwo)]) 12 182 [.agg [.int .i64 2, .int .i64 0, .int .i64 n]] K =
 (tonG ((ByteArray.mk #[83, 117, 110]) ++ (ByteArray.mk #[62, 61])) n K) := by kernel_rfl
set_option maxRecDepth 100000 in
theorem ton21_vc (n : Int) (K : AV → Prop) : AF (tab [(187, cyTwo)]) 12 182 [.agg [.int .i64 2, .int .i64 1, .int .i64 n]] K =
 (tonG ((ByteArray.mk #[77, 111, 110]) ++ (ByteArray.mk #[62, 61])) n K) := by kernel_rfl
set_option maxRecDepth 100000 in
theorem ton22_vc (n : Int) (K : AV → Prop) : AF (tab [(187, cyTwo)]) 12 182 [.agg [.int .i64 2, .int .i64 2, .int .i64 n]] K =
 (tonG ((ByteArray.mk #[84, 117, 101]) ++ (ByteArray.mk #[62, 61])) n K) := by kernel_rfl
set_option maxRecDepth 100000 in
theorem ton23_vc (n : Int) (K : AV → Prop) : AF (tab [(187, cyTwo)]) 12 182 [.agg [.int .i64 2, .int .i64 3, .int .i64 n]] K =
 (tonG ((ByteArray.mk #[87, 101, 100]) ++ (ByteArray.mk #[62, 61])) n K) := by kernel_rfl
set_option maxRecDepth 100000 in
theorem ton24_vc (n : Int) (K : AV → Prop) : AF (tab [(187, cyTwo)]) 12 182 [.agg [.int .i64 2, .int .i64 4, .int .i64 n]] K =
 (tonG ((ByteArray.mk #[84, 104, 117]) ++ (ByteArray.mk #[62, 61])) n K) := by kernel_rfl
set_option maxRecDepth 100000 in
theorem ton25_vc (n : Int) (K : AV → Prop) : AF (tab [(187, cyTwo)]) 12 182 [.agg [.int .i64 2, .int .i64 5, .int .i64 n]] K =
 (tonG ((ByteArray.mk #[70, 114, 105]) ++ (ByteArray.mk #[62, 61])) n K) := by kernel_rfl
set_option maxRecDepth 100000 in
theorem ton26_vc (n : Int) (K : AV → Prop) : AF (tab [(187, cyTwo)]) 12 182 [.agg [.int .i64 2, .int .i64 6, .int .i64 n]] K =
 (tonG ((ByteArray.mk #[83, 97, 116]) ++ (ByteArray.mk #[62, 61])) n K) := by kernel_rfl
set_option maxRecDepth 100000 in
theorem ton30_vc (n : Int) (K : AV → Prop) : AF (tab [(187, cyTwo)]) 12 182 [.agg [.int .i64 3, .int .i64 0, .int .i64 n]] K =
 (tonG ((ByteArray.mk #[83, 117, 110]) ++ (ByteArray.mk #[60, 61])) n K) := by kernel_rfl
set_option maxRecDepth 100000 in
theorem ton31_vc (n : Int) (K : AV → Prop) : AF (tab [(187, cyTwo)]) 12 182 [.agg [.int .i64 3, .int .i64 1, .int .i64 n]] K =
 (tonG ((ByteArray.mk #[77, 111, 110]) ++ (ByteArray.mk #[60, 61])) n K) := by kernel_rfl
set_option maxRecDepth 100000 in
theorem ton32_vc (n : Int) (K : AV → Prop) : AF (tab [(187, cyTwo)]) 12 182 [.agg [.int .i64 3, .int .i64 2, .int .i64 n]] K =
 (tonG ((ByteArray.mk #[84, 117, 101]) ++ (ByteArray.mk #[60, 61])) n K) := by kernel_rfl
set_option maxRecDepth 100000 in
theorem ton33_vc (n : Int) (K : AV → Prop) : AF (tab [(187, cyTwo)]) 12 182 [.agg [.int .i64 3, .int .i64 3, .int .i64 n]] K =
 (tonG ((ByteArray.mk #[87, 101, 100]) ++ (ByteArray.mk #[60, 61])) n K) := by kernel_rfl
set_option maxRecDepth 100000 in
theorem ton34_vc (n : Int) (K : AV → Prop) : AF (tab [(187, cyTwo)]) 12 182 [.agg [.int .i64 3, .int .i64 4, .int .i64 n]] K =
 (tonG ((ByteArray.mk #[84, 104, 117]) ++ (ByteArray.mk #[60, 61])) n K) := by kernel_rfl
set_option maxRecDepth 100000 in
theorem ton35_vc (n : Int) (K : AV → Prop) : AF (tab [(187, cyTwo)]) 12 182 [.agg [.int .i64 3, .int .i64 5, .int .i64 n]] K =
 (tonG ((ByteArray.mk #[70, 114, 105]) ++ (ByteArray.mk #[60, 61])) n K) := by kernel_rfl
set_option maxRecDepth 100000 in
theorem ton36_vc (n : Int) (K : AV → Prop) : AF (tab [(187, cyTwo)]) 12 182 [.agg [.int .i64 3, .int .i64 6, .int .i64 n]] K =
 (tonG ((ByteArray.mk #[83, 97, 116]) ++ (ByteArray.mk #[60, 61])) n K) := by kernel_rfl
set_option maxRecDepth 100000 in
theorem ton00_ok {n : Int} (hn : 1 ≤ n ∧ n ≤ 31) : AF (tab [(187, cyTwo)]) 12 182 [.agg [.int .i64 0, .int .i64 0, .int .i64 n]] fun u => ∃ s, u = .tup [.str s, .int .i64 0] := by
 rw [ton00_vc]
 repeat' (with_reducible refine kB (fun h => ?_) (fun h => ?_))
 all_goals first
  | exact ⟨_, rfl⟩
  | (exfalso; simp [two_size, ba_size, decide_eq_false_iff_not, ByteArray.size_append, ByteArray.size_extract, IntKind.max, IntKind.signed, IntKind.bits] at *; omega)
  | (exfalso; simp [two_size, ba_size, decide_eq_false_iff_not, ByteArray.size_append, ByteArray.size_extract, IntKind.max, IntKind.signed, IntKind.bits] at *; done)
set_option maxRecDepth 100000 in
theorem tonF_ok {p : ByteArray} (hp : p.size ≤ 12) {n : Int} (hn : n = 0) : tonF p n fun u => ∃ s, u = .tup [.str s, .int .i64 0] := by
 unfold tonF
 repeat' (with_reducible refine kB (fun h => ?_) (fun h => ?_))
 all_goals first
  | exact ⟨_, rfl⟩
  | (exfalso; simp [two_size, ba_size, decide_eq_false_iff_not, ByteArray.size_append, ByteArray.size_extract, IntKind.max, IntKind.signed, IntKind.bits] at *; omega)
  | (exfalso; simp [two_size, ba_size, decide_eq_false_iff_not, ByteArray.size_append, ByteArray.size_extract, IntKind.max, IntKind.signed, IntKind.bits] at *; done)
set_option maxRecDepth 100000 in
theorem tonG_ok {p : ByteArray} (hp : p.size ≤ 12) {n : Int} (hn : 1 ≤ n ∧ n ≤ 31) : tonG p n fun u => ∃ s, u = .tup [.str s, .int .i64 0] := by
 unfold tonG
 repeat' (with_reducible refine kB (fun h => ?_) (fun h => ?_))
 all_goals first
  | exact ⟨_, rfl⟩
  | (exfalso; simp [two_size, ba_size, decide_eq_false_iff_not, ByteArray.size_append, ByteArray.size_extract, IntKind.max, IntKind.signed, IntKind.bits] at *; omega)
  | (exfalso; simp [two_size, ba_size, decide_eq_false_iff_not, ByteArray.size_append, ByteArray.size_extract, IntKind.max, IntKind.signed, IntKind.bits] at *; done)
theorem ton10_ok {n : Int} (hn : n = 0) : AF (tab [(187, cyTwo)]) 12 182 [.agg [.int .i64 1, .int .i64 0, .int .i64 n]] fun u => ∃ s, u = .tup [.str s, .int .i64 0] := by
 rw [ton10_vc]
 exact tonF_ok (by rw [ByteArray.size_append]; decide) hn
theorem ton11_ok {n : Int} (hn : n = 0) : AF (tab [(187, cyTwo)]) 12 182 [.agg [.int .i64 1, .int .i64 1, .int .i64 n]] fun u => ∃ s, u = .tup [.str s, .int .i64 0] := by
 rw [ton11_vc]
 exact tonF_ok (by rw [ByteArray.size_append]; decide) hn
theorem ton12_ok {n : Int} (hn : n = 0) : AF (tab [(187, cyTwo)]) 12 182 [.agg [.int .i64 1, .int .i64 2, .int .i64 n]] fun u => ∃ s, u = .tup [.str s, .int .i64 0] := by
 rw [ton12_vc]
 exact tonF_ok (by rw [ByteArray.size_append]; decide) hn
theorem ton13_ok {n : Int} (hn : n = 0) : AF (tab [(187, cyTwo)]) 12 182 [.agg [.int .i64 1, .int .i64 3, .int .i64 n]] fun u => ∃ s, u = .tup [.str s, .int .i64 0] := by
 rw [ton13_vc]
 exact tonF_ok (by rw [ByteArray.size_append]; decide) hn
theorem ton14_ok {n : Int} (hn : n = 0) : AF (tab [(187, cyTwo)]) 12 182 [.agg [.int .i64 1, .int .i64 4, .int .i64 n]] fun u => ∃ s, u = .tup [.str s, .int .i64 0] := by
 rw [ton14_vc]
 exact tonF_ok (by rw [ByteArray.size_append]; decide) hn
theorem ton15_ok {n : Int} (hn : n = 0) : AF (tab [(187, cyTwo)]) 12 182 [.agg [.int .i64 1, .int .i64 5, .int .i64 n]] fun u => ∃ s, u = .tup [.str s, .int .i64 0] := by
 rw [ton15_vc]
 exact tonF_ok (by rw [ByteArray.size_append]; decide) hn
theorem ton16_ok {n : Int} (hn : n = 0) : AF (tab [(187, cyTwo)]) 12 182 [.agg [.int .i64 1, .int .i64 6, .int .i64 n]] fun u => ∃ s, u = .tup [.str s, .int .i64 0] := by
 rw [ton16_vc]
 exact tonF_ok (by rw [ByteArray.size_append]; decide) hn
theorem ton20_ok {n : Int} (hn : 1 ≤ n ∧ n ≤ 31) : AF (tab [(187, cyTwo)]) 12 182 [.agg [.int .i64 2, .int .i64 0, .int .i64 n]] fun u => ∃ s, u = .tup [.str s, .int .i64 0] := by
 rw [ton20_vc]
 exact tonG_ok (by rw [ByteArray.size_append]; decide) hn
theorem ton21_ok {n : Int} (hn : 1 ≤ n ∧ n ≤ 31) : AF (tab [(187, cyTwo)]) 12 182 [.agg [.int .i64 2, .int .i64 1, .int .i64 n]] fun u => ∃ s, u = .tup [.str s, .int .i64 0] := by
 rw [ton21_vc]
 exact tonG_ok (by rw [ByteArray.size_append]; decide) hn
theorem ton22_ok {n : Int} (hn : 1 ≤ n ∧ n ≤ 31) : AF (tab [(187, cyTwo)]) 12 182 [.agg [.int .i64 2, .int .i64 2, .int .i64 n]] fun u => ∃ s, u = .tup [.str s, .int .i64 0] := by
 rw [ton22_vc]
 exact tonG_ok (by rw [ByteArray.size_append]; decide) hn
theorem ton23_ok {n : Int} (hn : 1 ≤ n ∧ n ≤ 31) : AF (tab [(187, cyTwo)]) 12 182 [.agg [.int .i64 2, .int .i64 3, .int .i64 n]] fun u => ∃ s, u = .tup [.str s, .int .i64 0] := by
 rw [ton23_vc]
 exact tonG_ok (by rw [ByteArray.size_append]; decide) hn
theorem ton24_ok {n : Int} (hn : 1 ≤ n ∧ n ≤ 31) : AF (tab [(187, cyTwo)]) 12 182 [.agg [.int .i64 2, .int .i64 4, .int .i64 n]] fun u => ∃ s, u = .tup [.str s, .int .i64 0] := by
 rw [ton24_vc]
 exact tonG_ok (by rw [ByteArray.size_append]; decide) hn
theorem ton25_ok {n : Int} (hn : 1 ≤ n ∧ n ≤ 31) : AF (tab [(187, cyTwo)]) 12 182 [.agg [.int .i64 2, .int .i64 5, .int .i64 n]] fun u => ∃ s, u = .tup [.str s, .int .i64 0] := by
 rw [ton25_vc]
 exact tonG_ok (by rw [ByteArray.size_append]; decide) hn
theorem ton26_ok {n : Int} (hn : 1 ≤ n ∧ n ≤ 31) : AF (tab [(187, cyTwo)]) 12 182 [.agg [.int .i64 2, .int .i64 6, .int .i64 n]] fun u => ∃ s, u = .tup [.str s, .int .i64 0] := by
 rw [ton26_vc]
 exact tonG_ok (by rw [ByteArray.size_append]; decide) hn
theorem ton30_ok {n : Int} (hn : 1 ≤ n ∧ n ≤ 31) : AF (tab [(187, cyTwo)]) 12 182 [.agg [.int .i64 3, .int .i64 0, .int .i64 n]] fun u => ∃ s, u = .tup [.str s, .int .i64 0] := by
 rw [ton30_vc]
 exact tonG_ok (by rw [ByteArray.size_append]; decide) hn
theorem ton31_ok {n : Int} (hn : 1 ≤ n ∧ n ≤ 31) : AF (tab [(187, cyTwo)]) 12 182 [.agg [.int .i64 3, .int .i64 1, .int .i64 n]] fun u => ∃ s, u = .tup [.str s, .int .i64 0] := by
 rw [ton31_vc]
 exact tonG_ok (by rw [ByteArray.size_append]; decide) hn
theorem ton32_ok {n : Int} (hn : 1 ≤ n ∧ n ≤ 31) : AF (tab [(187, cyTwo)]) 12 182 [.agg [.int .i64 3, .int .i64 2, .int .i64 n]] fun u => ∃ s, u = .tup [.str s, .int .i64 0] := by
 rw [ton32_vc]
 exact tonG_ok (by rw [ByteArray.size_append]; decide) hn
theorem ton33_ok {n : Int} (hn : 1 ≤ n ∧ n ≤ 31) : AF (tab [(187, cyTwo)]) 12 182 [.agg [.int .i64 3, .int .i64 3, .int .i64 n]] fun u => ∃ s, u = .tup [.str s, .int .i64 0] := by
 rw [ton33_vc]
 exact tonG_ok (by rw [ByteArray.size_append]; decide) hn
theorem ton34_ok {n : Int} (hn : 1 ≤ n ∧ n ≤ 31) : AF (tab [(187, cyTwo)]) 12 182 [.agg [.int .i64 3, .int .i64 4, .int .i64 n]] fun u => ∃ s, u = .tup [.str s, .int .i64 0] := by
 rw [ton34_vc]
 exact tonG_ok (by rw [ByteArray.size_append]; decide) hn
theorem ton35_ok {n : Int} (hn : 1 ≤ n ∧ n ≤ 31) : AF (tab [(187, cyTwo)]) 12 182 [.agg [.int .i64 3, .int .i64 5, .int .i64 n]] fun u => ∃ s, u = .tup [.str s, .int .i64 0] := by
 rw [ton35_vc]
 exact tonG_ok (by rw [ByteArray.size_append]; decide) hn
theorem ton36_ok {n : Int} (hn : 1 ≤ n ∧ n ≤ 31) : AF (tab [(187, cyTwo)]) 12 182 [.agg [.int .i64 3, .int .i64 6, .int .i64 n]] fun u => ∃ s, u = .tup [.str s, .int .i64 0] := by
 rw [ton36_vc]
 exact tonG_ok (by rw [ByteArray.size_append]; decide) hn
theorem ton_ok {k w n : Int} (h : OnOk k w n) : AF (tab [(187, cyTwo)]) 12 182 [.agg [.int .i64 k, .int .i64 w, .int .i64 n]] fun u => ∃ s, u = .tup [.str s, .int .i64 0] := by
 have seven : ∀ {w : Int}, 0 ≤ w → w ≤ 6 → w = 0 ∨ w = 1 ∨ w = 2 ∨ w = 3 ∨ w = 4 ∨ w = 5 ∨ w = 6 := by omega
 rcases h with ⟨rfl, rfl, h1, h2⟩ | ⟨rfl, h0, h1, h2⟩ | ⟨h0, h1, h2, h3, h4⟩
 · exact ton00_ok ⟨h1, h2⟩
 · rcases seven h1 h2 with rfl | rfl | rfl | rfl | rfl | rfl | rfl
   · exact ton10_ok h0
   · exact ton11_ok h0
   · exact ton12_ok h0
   · exact ton13_ok h0
   · exact ton14_ok h0
   · exact ton15_ok h0
   · exact ton16_ok h0
 · rcases h0 with rfl | rfl
   · rcases seven h1 h2 with rfl | rfl | rfl | rfl | rfl | rfl | rfl
     · exact ton20_ok ⟨h3, h4⟩
     · exact ton21_ok ⟨h3, h4⟩
     · exact ton22_ok ⟨h3, h4⟩
     · exact ton23_ok ⟨h3, h4⟩
     · exact ton24_ok ⟨h3, h4⟩
     · exact ton25_ok ⟨h3, h4⟩
     · exact ton26_ok ⟨h3, h4⟩
   · rcases seven h1 h2 with rfl | rfl | rfl | rfl | rfl | rfl | rfl
     · exact ton30_ok ⟨h3, h4⟩
     · exact ton31_ok ⟨h3, h4⟩
     · exact ton32_ok ⟨h3, h4⟩
     · exact ton33_ok ⟨h3, h4⟩
     · exact ton34_ok ⟨h3, h4⟩
     · exact ton35_ok ⟨h3, h4⟩
     · exact ton36_ok ⟨h3, h4⟩
theorem cyOn_ok : COk Tryz.prog 182 cyOn := by
 intro args p v hc hp w A hA
 unfold cyOn at hc
 split at hc
 case h_2 => cases hc
 rename_i k wd n
 simp only [Option.some.injEq, Prod.mk.injEq] at hc
 obtain ⟨_, rfl⟩ := hc
 by_cases h : OnOk k wd n
 · rw [if_pos h]
   exact af_text (kD cyTwo_ok bE) (by kernel_rfl) (ton_ok h) hA
 · rw [if_neg h]
   refine af_text (n := 6) (kD cyBad_ok bE) (by kernel_rfl) ?_ hA
   rw [texton_vc]
   exact brcT (decide_eq_true h) ⟨_, rfl⟩
abbrev tH (n : Int) : ByteArray := two (IntKind.wrap .i64 (Int.tdiv n 3600))
abbrev tM (n : Int) : ByteArray := two (Int.tmod (IntKind.wrap .i64 (Int.tdiv n 60)) 60)
abbrev tS (n : Int) : ByteArray := two (Int.tmod n 60)
abbrev tP (n : Int) : ByteArray := tH n ++ (ByteArray.mk #[58]) ++ tM n
set_option maxRecDepth 100000 in
theorem textat_vc (n c : Int) (K : AV → Prop) : AF (tab [(187, cyTwo)]) 6 183 [.agg [.int .i64 n, .int .u8 c]] K =
 (brc (decide (n ≥ 0)) (brc (decide (n ≤ 86400)) (brc (c == 119) (brc (decide (0 ≤ IntKind.wrap .i64 (Int.tdiv n 3600) ∧ IntKind.wrap .i64 (Int.tdiv n 3600) ≤ 99)) (brc (decide (((ByteArray.size (tH n) + ByteArray.size (ByteArray.mk #[58]) : Nat) : Int) ≤ IntKind.max .i64)) (brc (decide (0 ≤ Int.tmod (IntKind.wrap .i64 (Int.tdiv n 60)) 60 ∧ Int.tmod (IntKind.wrap .i64 (Int.tdiv n 60)) 60 ≤ 99)) (brc (decide (((ByteArray.size (tH n ++ (ByteArray.mk #[58])) + ByteArray.size (tM n) : Nat) : Int) ≤ IntKind.max .i64)) (brc (decide (0 < ((ByteArray.size (tP n) : Nat) : Int))) (brc (((UInt8.toNat (Array.getD (ByteArray.data (tP n)) (Int.toNat 0) 0) : Nat) : Int) == 48) (brc (decide (1 ≤ ((ByteArray.size (tP n) : Nat) : Int)) && decide (((ByteArray.size (tP n) : Nat) : Int) ≤ ((ByteArray.size (tP n) : Nat) : Int))) (brc (Int.tmod n 60 != 0) (brc (decide (0 ≤ Int.tmod n 60 ∧ Int.tmod n 60 ≤ 99)) (brc (decide (((ByteArray.size (ByteArray.mk #[58]) + ByteArray.size (tS n) : Nat) : Int) ≤ IntKind.max .i64)) (brc (decide (((ByteArray.size (ByteArray.extract (tP n) (Int.toNat 1) (Int.toNat ((ByteArray.size (tP n) : Nat) : Int))) + ByteArray.size ((ByteArray.mk #[58]) ++ tS n) : Nat) : Int) ≤ IntKind.max .i64)) (brc (c != 119) (brc (decide (((ByteArray.size (ByteArray.extract (tP n) (Int.toNat 1) (Int.toNat ((ByteArray.size (tP n) : Nat) : Int)) ++ ((ByteArray.mk #[58]) ++ tS n)) + ByteArray.size (Utf8.encode (IntKind.wrap .i32 c)) : Nat) : Int) ≤ IntKind.max .i64)) (K (AV.tup [.str (ByteArray.extract (tP n) 1 (Int.toNat ((ByteArray.size (tP n) : Nat) : Int)) ++ ((ByteArray.mk #[58]) ++ tS n) ++ Utf8.encode (IntKind.wrap .i32 c)), .int .i64 0])) False) (K (AV.tup [.str (ByteArray.extract (tP n) 1 (Int.toNat ((ByteArray.size (tP n) : Nat) : Int)) ++ ((ByteArray.mk #[58]) ++ tS n)), .int .i64 0]))) False) False) False) (brc (c != 119) (brc (decide (((ByteArray.size (ByteArray.extract (tP n) (Int.toNat 1) (Int.toNat ((ByteArray.size (tP n) : Nat) : Int))) + ByteArray.size (Utf8.encode (IntKind.wrap .i32 c)) : Nat) : Int) ≤ IntKind.max .i64)) (K (AV.tup [.str (ByteArray.extract (tP n) 1 (Int.toNat ((ByteArray.size (tP n) : Nat) : Int)) ++ Utf8.encode (IntKind.wrap .i32 c)), .int .i64 0])) False) (K (AV.tup [.str (ByteArray.extract (tP n) 1 (Int.toNat ((ByteArray.size (tP n) : Nat) : Int))), .int .i64 0])))) False) (brc (Int.tmod n 60 != 0) (brc (decide (0 ≤ Int.tmod n 60 ∧ Int.tmod n 60 ≤ 99)) (brc (decide (((ByteArray.size (ByteArray.mk #[58]) + ByteArray.size (tS n) : Nat) : Int) ≤ IntKind.max .i64)) (brc (decide (((ByteArray.size (tP n) + ByteArray.size ((ByteArray.mk #[58]) ++ tS n) : Nat) : Int) ≤ IntKind.max .i64)) (brc (c != 119) (brc (decide (((ByteArray.size (tP n ++ ((ByteArray.mk #[58]) ++ tS n)) + ByteArray.size (Utf8.encode (IntKind.wrap .i32 c)) : Nat) : Int) ≤ IntKind.max .i64)) (K (AV.tup [.str (tP n ++ ((ByteArray.mk #[58]) ++ tS n) ++ Utf8.encode (IntKind.wrap .i32 c)), .int .i64 0])) False) (K (AV.tup [.str (tP n ++ ((ByteArray.mk #[58]) ++ tS n)), .int .i64 0]))) False) False) False) (brc (c != 119) (brc (decide (((ByteArray.size (tP n) + ByteArray.size (Utf8.encode (IntKind.wrap .i32 c)) : Nat) : Int) ≤ IntKind.max .i64)) (K (AV.tup [.str (tP n ++ Utf8.encode (IntKind.wrap .i32 c)), .int .i64 0])) False) (K (AV.tup [.str (tP n), .int .i64 0]))))) False) False) False) False) False) (brc (c == 115) (brc (decide (0 ≤ IntKind.wrap .i64 (Int.tdiv n 3600) ∧ IntKind.wrap .i64 (Int.tdiv n 3600) ≤ 99)) (brc (decide (((ByteArray.size (tH n) + ByteArray.size (ByteArray.mk #[58]) : Nat) : Int) ≤ IntKind.max .i64)) (brc (decide (0 ≤ Int.tmod (IntKind.wrap .i64 (Int.tdiv n 60)) 60 ∧ Int.tmod (IntKind.wrap .i64 (Int.tdiv n 60)) 60 ≤ 99)) (brc (decide (((ByteArray.size (tH n ++ (ByteArray.mk #[58])) + ByteArray.size (tM n) : Nat) : Int) ≤ IntKind.max .i64)) (brc (decide (0 < ((ByteArray.size (tP n) : Nat) : Int))) (brc (((UInt8.toNat (Array.getD (ByteArray.data (tP n)) (Int.toNat 0) 0) : Nat) : Int) == 48) (brc (decide (1 ≤ ((ByteArray.size (tP n) : Nat) : Int)) && decide (((ByteArray.size (tP n) : Nat) : Int) ≤ ((ByteArray.size (tP n) : Nat) : Int))) (brc (Int.tmod n 60 != 0) (brc (decide (0 ≤ Int.tmod n 60 ∧ Int.tmod n 60 ≤ 99)) (brc (decide (((ByteArray.size (ByteArray.mk #[58]) + ByteArray.size (tS n) : Nat) : Int) ≤ IntKind.max .i64)) (brc (decide (((ByteArray.size (ByteArray.extract (tP n) (Int.toNat 1) (Int.toNat ((ByteArray.size (tP n) : Nat) : Int))) + ByteArray.size ((ByteArray.mk #[58]) ++ tS n) : Nat) : Int) ≤ IntKind.max .i64)) (brc (c != 119) (brc (decide (((ByteArray.size (ByteArray.extract (tP n) (Int.toNat 1) (Int.toNat ((ByteArray.size (tP n) : Nat) : Int)) ++ ((ByteArray.mk #[58]) ++ tS n)) + ByteArray.size (Utf8.encode (IntKind.wrap .i32 c)) : Nat) : Int) ≤ IntKind.max .i64)) (K (AV.tup [.str (ByteArray.extract (tP n) 1 (Int.toNat ((ByteArray.size (tP n) : Nat) : Int)) ++ ((ByteArray.mk #[58]) ++ tS n) ++ Utf8.encode (IntKind.wrap .i32 c)), .int .i64 0])) False) (K (AV.tup [.str (ByteArray.extract (tP n) 1 (Int.toNat ((ByteArray.size (tP n) : Nat) : Int)) ++ ((ByteArray.mk #[58]) ++ tS n)), .int .i64 0]))) False) False) False) (brc (c != 119) (brc (decide (((ByteArray.size (ByteArray.extract (tP n) (Int.toNat 1) (Int.toNat ((ByteArray.size (tP n) : Nat) : Int))) + ByteArray.size (Utf8.encode (IntKind.wrap .i32 c)) : Nat) : Int) ≤ IntKind.max .i64)) (K (AV.tup [.str (ByteArray.extract (tP n) 1 (Int.toNat ((ByteArray.size (tP n) : Nat) : Int)) ++ Utf8.encode (IntKind.wrap .i32 c)), .int .i64 0])) False) (K (AV.tup [.str (ByteArray.extract (tP n) 1 (Int.toNat ((ByteArray.size (tP n) : Nat) : Int))), .int .i64 0])))) False) (brc (Int.tmod n 60 != 0) (brc (decide (0 ≤ Int.tmod n 60 ∧ Int.tmod n 60 ≤ 99)) (brc (decide (((ByteArray.size (ByteArray.mk #[58]) + ByteArray.size (tS n) : Nat) : Int) ≤ IntKind.max .i64)) (brc (decide (((ByteArray.size (tP n) + ByteArray.size ((ByteArray.mk #[58]) ++ tS n) : Nat) : Int) ≤ IntKind.max .i64)) (brc (c != 119) (brc (decide (((ByteArray.size (tP n ++ ((ByteArray.mk #[58]) ++ tS n)) + ByteArray.size (Utf8.encode (IntKind.wrap .i32 c)) : Nat) : Int) ≤ IntKind.max .i64)) (K (AV.tup [.str (tP n ++ ((ByteArray.mk #[58]) ++ tS n) ++ Utf8.encode (IntKind.wrap .i32 c)), .int .i64 0])) False) (K (AV.tup [.str (tP n ++ ((ByteArray.mk #[58]) ++ tS n)), .int .i64 0]))) False) False) False) (brc (c != 119) (brc (decide (((ByteArray.size (tP n) + ByteArray.size (Utf8.encode (IntKind.wrap .i32 c)) : Nat) : Int) ≤ IntKind.max .i64)) (K (AV.tup [.str (tP n ++ Utf8.encode (IntKind.wrap .i32 c)), .int .i64 0])) False) (K (AV.tup [.str (tP n), .int .i64 0]))))) False) False) False) False) False) (brc (!c == 117) (K (AV.tup [.str (ByteArray.mk #[]), .int .i64 1])) (brc (decide (0 ≤ IntKind.wrap .i64 (Int.tdiv n 3600) ∧ IntKind.wrap .i64 (Int.tdiv n 3600) ≤ 99)) (brc (decide (((ByteArray.size (tH n) + ByteArray.size (ByteArray.mk #[58]) : Nat) : Int) ≤ IntKind.max .i64)) (brc (decide (0 ≤ Int.tmod (IntKind.wrap .i64 (Int.tdiv n 60)) 60 ∧ Int.tmod (IntKind.wrap .i64 (Int.tdiv n 60)) 60 ≤ 99)) (brc (decide (((ByteArray.size (tH n ++ (ByteArray.mk #[58])) + ByteArray.size (tM n) : Nat) : Int) ≤ IntKind.max .i64)) (brc (decide (0 < ((ByteArray.size (tP n) : Nat) : Int))) (brc (((UInt8.toNat (Array.getD (ByteArray.data (tP n)) (Int.toNat 0) 0) : Nat) : Int) == 48) (brc (decide (1 ≤ ((ByteArray.size (tP n) : Nat) : Int)) && decide (((ByteArray.size (tP n) : Nat) : Int) ≤ ((ByteArray.size (tP n) : Nat) : Int))) (brc (Int.tmod n 60 != 0) (brc (decide (0 ≤ Int.tmod n 60 ∧ Int.tmod n 60 ≤ 99)) (brc (decide (((ByteArray.size (ByteArray.mk #[58]) + ByteArray.size (tS n) : Nat) : Int) ≤ IntKind.max .i64)) (brc (decide (((ByteArray.size (ByteArray.extract (tP n) (Int.toNat 1) (Int.toNat ((ByteArray.size (tP n) : Nat) : Int))) + ByteArray.size ((ByteArray.mk #[58]) ++ tS n) : Nat) : Int) ≤ IntKind.max .i64)) (brc (c != 119) (brc (decide (((ByteArray.size (ByteArray.extract (tP n) (Int.toNat 1) (Int.toNat ((ByteArray.size (tP n) : Nat) : Int)) ++ ((ByteArray.mk #[58]) ++ tS n)) + ByteArray.size (Utf8.encode (IntKind.wrap .i32 c)) : Nat) : Int) ≤ IntKind.max .i64)) (K (AV.tup [.str (ByteArray.extract (tP n) 1 (Int.toNat ((ByteArray.size (tP n) : Nat) : Int)) ++ ((ByteArray.mk #[58]) ++ tS n) ++ Utf8.encode (IntKind.wrap .i32 c)), .int .i64 0])) False) (K (AV.tup [.str (ByteArray.extract (tP n) 1 (Int.toNat ((ByteArray.size (tP n) : Nat) : Int)) ++ ((ByteArray.mk #[58]) ++ tS n)), .int .i64 0]))) False) False) False) (brc (c != 119) (brc (decide (((ByteArray.size (ByteArray.extract (tP n) (Int.toNat 1) (Int.toNat ((ByteArray.size (tP n) : Nat) : Int))) + ByteArray.size (Utf8.encode (IntKind.wrap .i32 c)) : Nat) : Int) ≤ IntKind.max .i64)) (K (AV.tup [.str (ByteArray.extract (tP n) 1 (Int.toNat ((ByteArray.size (tP n) : Nat) : Int)) ++ Utf8.encode (IntKind.wrap .i32 c)), .int .i64 0])) False) (K (AV.tup [.str (ByteArray.extract (tP n) 1 (Int.toNat ((ByteArray.size (tP n) : Nat) : Int))), .int .i64 0])))) False) (brc (Int.tmod n 60 != 0) (brc (decide (0 ≤ Int.tmod n 60 ∧ Int.tmod n 60 ≤ 99)) (brc (decide (((ByteArray.size (ByteArray.mk #[58]) + ByteArray.size (tS n) : Nat) : Int) ≤ IntKind.max .i64)) (brc (decide (((ByteArray.size (tP n) + ByteArray.size ((ByteArray.mk #[58]) ++ tS n) : Nat) : Int) ≤ IntKind.max .i64)) (brc (c != 119) (brc (decide (((ByteArray.size (tP n ++ ((ByteArray.mk #[58]) ++ tS n)) + ByteArray.size (Utf8.encode (IntKind.wrap .i32 c)) : Nat) : Int) ≤ IntKind.max .i64)) (K (AV.tup [.str (tP n ++ ((ByteArray.mk #[58]) ++ tS n) ++ Utf8.encode (IntKind.wrap .i32 c)), .int .i64 0])) False) (K (AV.tup [.str (tP n ++ ((ByteArray.mk #[58]) ++ tS n)), .int .i64 0]))) False) False) False) (brc (c != 119) (brc (decide (((ByteArray.size (tP n) + ByteArray.size (Utf8.encode (IntKind.wrap .i32 c)) : Nat) : Int) ≤ IntKind.max .i64)) (K (AV.tup [.str (tP n ++ Utf8.encode (IntKind.wrap .i32 c)), .int .i64 0])) False) (K (AV.tup [.str (tP n), .int .i64 0]))))) False) False) False) False) False)))) (K (AV.tup [.str (ByteArray.mk #[]), .int .i64 1]))) (K (AV.tup [.str (ByteArray.mk #[]), .int .i64 1]))) := by kernel_rfl
set_option maxRecDepth 100000 in
theorem tat_no {n c : Int} (hb : ¬ AtOk n c) : AF (tab [(187, cyTwo)]) 6 183 [.agg [.int .i64 n, .int .u8 c]] fun u => ∃ s, u = .tup [.str s, .int .i64 1] := by
 rw [textat_vc]
 unfold tP tH tM tS
 repeat' (with_reducible refine kB (fun h => ?_) (fun h => ?_))
 all_goals first
  | exact ⟨_, rfl⟩
  | (exfalso; refine hb ?_; clear hb; unfold AtOk; simp only [decide_eq_true_eq, decide_eq_false_iff_not, Bool.not_eq_true', Bool.not_eq_false', beq_iff_eq, beq_eq_false_iff_ne, bne_iff_ne, ne_eq, Bool.and_eq_true, Bool.and_eq_false_iff, Bool.true_and] at *; omega)
set_option maxRecDepth 100000 in
theorem tat_yes {n c : Int} (h : AtOk n c) : AF (tab [(187, cyTwo)]) 6 183 [.agg [.int .i64 n, .int .u8 c]] fun u => ∃ s, u = .tup [.str s, .int .i64 0] := by
 rw [textat_vc]
 unfold tP tH tM tS
 have e1 : Int.tdiv n 3600 = n / 3600 := td_pos h.1
 have e2 : Int.tdiv n 60 = n / 60 := td_pos h.1
 have e3 : Int.tmod n 60 = n % 60 := tm_pos h.1
 have e4 : Int.tmod (n / 60) 60 = n / 60 % 60 := tm_pos (by have := h.1; omega)
 obtain ⟨h1, h2, h3⟩ := h
 rw [e1, e2, e3, wv (x := n / 3600) (by omega) (by omega), wv (x := n / 60) (by omega) (by omega), e4]
 clear e1 e2 e3 e4
 have u1 : (Utf8.encode (IntKind.wrap .i32 115)).size = 1 := by decide
 have u2 : (Utf8.encode (IntKind.wrap .i32 117)).size = 1 := by decide
 rcases h3 with rfl | rfl | rfl
 all_goals
  repeat' (with_reducible refine kB (fun h => ?_) (fun h => ?_))
  all_goals first
   | exact ⟨_, rfl⟩
   | (exfalso; simp [two_size, ba_size, u1, u2, decide_eq_false_iff_not, ByteArray.size_append, ByteArray.size_extract, IntKind.max, IntKind.signed, IntKind.bits] at *; omega)
   | (exfalso; simp [two_size, ba_size, u1, u2, decide_eq_false_iff_not, ByteArray.size_append, ByteArray.size_extract, IntKind.max, IntKind.signed, IntKind.bits] at *; done)
theorem cyAt_ok : COk Tryz.prog 183 cyAt := by
 intro args p v hc hp w A hA
 unfold cyAt at hc
 split at hc
 case h_2 => cases hc
 rename_i n c
 simp only [Option.some.injEq, Prod.mk.injEq] at hc
 obtain ⟨_, rfl⟩ := hc
 by_cases h : AtOk n c
 · rw [if_pos h]
   exact af_text (kD cyTwo_ok bE) (by kernel_rfl) (tat_yes h) hA
 · rw [if_neg h]
   exact af_text (kD cyTwo_ok bE) (by kernel_rfl) (tat_no h) hA
end
section
open A
theorem bool_eq {a b : Bool} (h : a = true ↔ b = true) : AV.bool a = AV.bool b := by congr 1; cases a <;> cases b <;> simp_all
theorem dec_eq {P Q : Prop} [Decidable P] [Decidable Q] (h : P → Q) (k : Q → P) : AV.bool (decide P) = AV.bool (decide Q) := by congr 1; exact decide_eq_decide.2 ⟨h, k⟩
theorem bool_no {P : Prop} [Decidable P] (h : ¬ P) : AV.bool false = AV.bool (decide P) := by rw [decide_eq_false h]
set_option maxRecDepth 100000 in
theorem right_vc (h : Hf) (K : AV → Prop) : AF (tab [(182, cyOn), (183, cyAt)]) 6 174 [.agg (avH h)] K =
 (∀ (m0 : Int), (m0 = if OnOk (Hf.k h) (Hf.w h) (Hf.n h) then 0 else 1) → ∀ (m1 : Int), (m1 = if AtOk (Hf.s h) (Hf.c h) then 0 else 1) → brc (decide (Hf.m h ≥ 1)) (brc (decide (Hf.m h ≤ 12)) (brc (m0 == 0) (brc (m1 == 0) (brc (decide (Hf.v h ≥ 0)) (K (AV.bool (decide (Hf.v h ≤ 7200)))) (K (AV.bool false))) (K (AV.bool false))) (K (AV.bool false))) (K (AV.bool false))) (K (AV.bool false))) := by kernel_rfl
set_option maxRecDepth 100000 in
theorem cyRight_ok : COk Tryz.prog 174 cyRight := af_con (kD cyOn_ok (kD cyAt_ok bE)) (by kernel_rfl) fun args p v hc hp => by
 unfold cyRight at hc
 split at hc
 case h_2 => cases hc
 split at hc
 case h_2 => cases hc
 rename_i l h hl
 simp only [Option.some.injEq, Prod.mk.injEq] at hc
 obtain ⟨_, rfl⟩ := hc
 rw [rdH_ok hl]
 refine ⟨rfl, 6, ?_⟩
 rw [right_vc]
 rintro _ rfl _ rfl
 unfold HfOk
 by_cases h1 : OnOk h.k h.w h.n <;> by_cases h2 : AtOk h.s h.c <;> simp only [h1, h2, if_true, if_false, beq_self_eq_true, brc_tt, brc_ff, show ((1 : Int) == 0) = false from rfl, true_and, and_true, false_and, and_false]
 all_goals
  repeat' (with_reducible refine kB (fun h => ?_) (fun h => ?_))
  all_goals first
   | (refine bool_eq ?_; simp only [decide_eq_true_eq, decide_eq_false_iff_not, Bool.not_eq_true', Bool.not_eq_false', beq_iff_eq, beq_eq_false_iff_ne, bne_iff_ne, bne_eq_false_iff_eq, ne_eq, Bool.and_eq_true, Bool.and_eq_false_iff, Bool.true_and] at *; omega)
   | (refine bool_no ?_; simp only [decide_eq_true_eq, decide_eq_false_iff_not, Bool.not_eq_true', Bool.not_eq_false', beq_iff_eq, beq_eq_false_iff_ne, bne_iff_ne, bne_eq_false_iff_eq, ne_eq, Bool.and_eq_true, Bool.and_eq_false_iff, Bool.true_and] at *; omega)
   | rfl
set_option maxRecDepth 100000 in
theorem rright_vc (h : Hf) (K : AV → Prop) : AF (tab []) 6 168 [.agg (avH h)] K =
 (brc (decide (Hf.m h ≥ 1)) (brc (decide (Hf.m h ≤ 12)) (brc (decide (Hf.w h ≥ 0)) (brc (decide (Hf.n h ≥ 1)) (brc (Hf.k h == 0) (brc (decide (Hf.n h ≤ 31)) (brc (Hf.w h == 0) (brc (decide (Hf.s h ≥ 0)) (brc (decide (Hf.s h ≤ 86400)) (brc (Hf.c h == 119) (brc (decide (Hf.v h ≥ 0)) (K (AV.bool (decide (Hf.v h ≤ 7200)))) (K (AV.bool false))) (brc (Hf.c h == 115) (brc (decide (Hf.v h ≥ 0)) (K (AV.bool (decide (Hf.v h ≤ 7200)))) (K (AV.bool false))) (brc (Hf.c h == 117) (brc (decide (Hf.v h ≥ 0)) (K (AV.bool (decide (Hf.v h ≤ 7200)))) (K (AV.bool false))) (K (AV.bool false))))) (K (AV.bool false))) (K (AV.bool false))) (K (AV.bool false))) (K (AV.bool false))) (brc (Hf.k h == 1) (brc (decide (Hf.w h ≤ 6)) (brc (Hf.n h == 0) (brc (decide (Hf.s h ≥ 0)) (brc (decide (Hf.s h ≤ 86400)) (brc (Hf.c h == 119) (brc (decide (Hf.v h ≥ 0)) (K (AV.bool (decide (Hf.v h ≤ 7200)))) (K (AV.bool false))) (brc (Hf.c h == 115) (brc (decide (Hf.v h ≥ 0)) (K (AV.bool (decide (Hf.v h ≤ 7200)))) (K (AV.bool false))) (brc (Hf.c h == 117) (brc (decide (Hf.v h ≥ 0)) (K (AV.bool (decide (Hf.v h ≤ 7200)))) (K (AV.bool false))) (K (AV.bool false))))) (K (AV.bool false))) (K (AV.bool false))) (K (AV.bool false))) (K (AV.bool false))) (brc (Hf.k h == 2) (brc (decide (Hf.w h ≤ 6)) (brc (decide (Hf.n h ≤ 31)) (brc (decide (Hf.s h ≥ 0)) (brc (decide (Hf.s h ≤ 86400)) (brc (Hf.c h == 119) (brc (decide (Hf.v h ≥ 0)) (K (AV.bool (decide (Hf.v h ≤ 7200)))) (K (AV.bool false))) (brc (Hf.c h == 115) (brc (decide (Hf.v h ≥ 0)) (K (AV.bool (decide (Hf.v h ≤ 7200)))) (K (AV.bool false))) (brc (Hf.c h == 117) (brc (decide (Hf.v h ≥ 0)) (K (AV.bool (decide (Hf.v h ≤ 7200)))) (K (AV.bool false))) (K (AV.bool false))))) (K (AV.bool false))) (K (AV.bool false))) (K (AV.bool false))) (K (AV.bool false))) (brc (Hf.k h == 3) (brc (decide (Hf.w h ≤ 6)) (brc (decide (Hf.n h ≤ 31)) (brc (decide (Hf.s h ≥ 0)) (brc (decide (Hf.s h ≤ 86400)) (brc (Hf.c h == 119) (brc (decide (Hf.v h ≥ 0)) (K (AV.bool (decide (Hf.v h ≤ 7200)))) (K (AV.bool false))) (brc (Hf.c h == 115) (brc (decide (Hf.v h ≥ 0)) (K (AV.bool (decide (Hf.v h ≤ 7200)))) (K (AV.bool false))) (brc (Hf.c h == 117) (brc (decide (Hf.v h ≥ 0)) (K (AV.bool (decide (Hf.v h ≤ 7200)))) (K (AV.bool false))) (K (AV.bool false))))) (K (AV.bool false))) (K (AV.bool false))) (K (AV.bool false))) (K (AV.bool false))) (K (AV.bool false)))))) (brc (Hf.k h == 0) (K (AV.bool false)) (brc (Hf.k h == 1) (brc (decide (Hf.w h ≤ 6)) (brc (Hf.n h == 0) (brc (decide (Hf.s h ≥ 0)) (brc (decide (Hf.s h ≤ 86400)) (brc (Hf.c h == 119) (brc (decide (Hf.v h ≥ 0)) (K (AV.bool (decide (Hf.v h ≤ 7200)))) (K (AV.bool false))) (brc (Hf.c h == 115) (brc (decide (Hf.v h ≥ 0)) (K (AV.bool (decide (Hf.v h ≤ 7200)))) (K (AV.bool false))) (brc (Hf.c h == 117) (brc (decide (Hf.v h ≥ 0)) (K (AV.bool (decide (Hf.v h ≤ 7200)))) (K (AV.bool false))) (K (AV.bool false))))) (K (AV.bool false))) (K (AV.bool false))) (K (AV.bool false))) (K (AV.bool false))) (brc (Hf.k h == 2) (brc (decide (Hf.w h ≤ 6)) (K (AV.bool false)) (K (AV.bool false))) (brc (Hf.k h == 3) (brc (decide (Hf.w h ≤ 6)) (K (AV.bool false)) (K (AV.bool false))) (K (AV.bool false))))))) (brc (decide (Hf.n h ≥ 1)) (brc (Hf.k h == 0) (brc (decide (Hf.n h ≤ 31)) (brc (Hf.w h == 0) (brc (decide (Hf.s h ≥ 0)) (brc (decide (Hf.s h ≤ 86400)) (brc (Hf.c h == 119) (brc (decide (Hf.v h ≥ 0)) (K (AV.bool (decide (Hf.v h ≤ 7200)))) (K (AV.bool false))) (brc (Hf.c h == 115) (brc (decide (Hf.v h ≥ 0)) (K (AV.bool (decide (Hf.v h ≤ 7200)))) (K (AV.bool false))) (brc (Hf.c h == 117) (brc (decide (Hf.v h ≥ 0)) (K (AV.bool (decide (Hf.v h ≤ 7200)))) (K (AV.bool false))) (K (AV.bool false))))) (K (AV.bool false))) (K (AV.bool false))) (K (AV.bool false))) (K (AV.bool false))) (brc (Hf.k h == 1) (K (AV.bool false)) (brc (Hf.k h == 2) (K (AV.bool false)) (brc (Hf.k h == 3) (K (AV.bool false)) (K (AV.bool false)))))) (brc (Hf.k h == 0) (K (AV.bool false)) (brc (Hf.k h == 1) (K (AV.bool false)) (brc (Hf.k h == 2) (K (AV.bool false)) (brc (Hf.k h == 3) (K (AV.bool false)) (K (AV.bool false)))))))) (K (AV.bool false))) (K (AV.bool false))) := by kernel_rfl
set_option maxRecDepth 100000 in
set_option maxHeartbeats 2000000 in
theorem cyRightR_ok : COk Tryz.prog 168 cyRight := af_con bE (by kernel_rfl) fun args p v hc hp => by
 unfold cyRight at hc
 split at hc
 case h_2 => cases hc
 split at hc
 case h_2 => cases hc
 rename_i l h hl
 simp only [Option.some.injEq, Prod.mk.injEq] at hc
 obtain ⟨_, rfl⟩ := hc
 rw [rdH_ok hl]
 refine ⟨rfl, 6, ?_⟩
 rw [rright_vc]
 unfold HfOk OnOk AtOk
 clear hl hp
 repeat' (with_reducible refine kB (fun h => ?_) (fun h => ?_))
 all_goals simp only [decide_eq_true_eq, decide_eq_false_iff_not, Bool.not_eq_true', Bool.not_eq_false', beq_iff_eq, beq_eq_false_iff_ne, bne_iff_ne, bne_eq_false_iff_eq, ne_eq, Bool.and_eq_true, Bool.and_eq_false_iff, Bool.true_and] at *
 all_goals first
  | (refine dec_eq (fun q => ?_) fun q => ?_; (repeat' apply And.intro) <;> omega; omega)
  | (refine bool_no ?_; omega)
theorem abs_wrap {a b : Int} (h1 : 1 ≤ a ∧ a ≤ 12) (h2 : 1 ≤ b ∧ b ≤ 12) : IntKind.wrap .i64 (a - b) = a - b ∧ IntKind.wrap .i64 (0 - (a - b)) = b - a := by
 rw [wv (x := a - b) (by omega) (by omega), wv (by omega) (by omega)]; omega
set_option maxRecDepth 100000 in
theorem can_vc (F : Ft) (K : AV → Prop) : AF (tab [(174, cyRight)]) 6 163 [.agg (avF F)] K =
 (brc (!Ft.z F) (K (AV.bool false)) (∀ m0 : Bool, m0 = decide (HfOk (Ft.a F)) → brc (!m0) (K (AV.bool false)) (∀ m1 : Bool, m1 = decide (HfOk (Ft.b F)) → brc (!m1) (K (AV.bool false)) (brc (decide (Ft.off F < -50400)) (K (AV.bool false)) (brc (decide (Ft.off F > 50400)) (K (AV.bool false)) (brc (decide ((if IntKind.wrap .i64 (0 - IntKind.wrap .i64 (Hf.m (Ft.a F) - Hf.m (Ft.b F))) > IntKind.wrap .i64 (Hf.m (Ft.a F) - Hf.m (Ft.b F)) then IntKind.wrap .i64 (0 - IntKind.wrap .i64 (Hf.m (Ft.a F) - Hf.m (Ft.b F))) else IntKind.wrap .i64 (Hf.m (Ft.a F) - Hf.m (Ft.b F))) ≥ 2)) (K (AV.bool (decide ((if IntKind.wrap .i64 (0 - IntKind.wrap .i64 (Hf.m (Ft.a F) - Hf.m (Ft.b F))) > IntKind.wrap .i64 (Hf.m (Ft.a F) - Hf.m (Ft.b F)) then IntKind.wrap .i64 (0 - IntKind.wrap .i64 (Hf.m (Ft.a F) - Hf.m (Ft.b F))) else IntKind.wrap .i64 (Hf.m (Ft.a F) - Hf.m (Ft.b F))) ≤ 10)))) (K (AV.bool false)))))))) := by kernel_rfl
set_option maxRecDepth 100000 in
theorem cyCan_ok : COk Tryz.prog 163 cyCan := af_con (kD cyRight_ok bE) (by kernel_rfl) fun args p v hc hp => by
 unfold cyCan at hc
 split at hc
 case h_2 => cases hc
 split at hc
 case h_2 => cases hc
 rename_i l F hl
 simp only [Option.some.injEq, Prod.mk.injEq] at hc
 obtain ⟨_, rfl⟩ := hc
 rw [rdF_ok hl]
 refine ⟨rfl, 6, ?_⟩
 rw [can_vc]
 have no : ∀ {X : Prop}, (FtOk F → X) → ¬ X → AV.bool false = AV.bool (decide (FtOk F)) := fun h k => bool_no fun q => k (h q)
 refine kB (fun h => no (fun q => q.1) (by simpa using h)) fun h0 => ?_
 rintro _ rfl
 refine kB (fun h => no (fun q => q.2.1) (by simpa using h)) fun h1 => ?_
 rintro _ rfl
 refine kB (fun h => no (fun q => q.2.2.1) (by simpa using h)) fun h2 => ?_
 have h1 : HfOk F.a := by simpa using h1
 have h2 : HfOk F.b := by simpa using h2
 have hz : F.z = true := by simpa using h0
 obtain ⟨e1, e2⟩ := abs_wrap ⟨h1.1, h1.2.1⟩ ⟨h2.1, h2.2.1⟩
 rw [e1, e2]
 unfold FtOk
 simp only [hz, h1, h2, true_and]
 clear no h0 e1 e2 h1 h2 hz hp hl
 repeat' (with_reducible refine kB (fun h => ?_) (fun h => ?_))
 all_goals first
  | (refine bool_eq ?_; simp only [decide_eq_true_eq, decide_eq_false_iff_not, Bool.not_eq_true', Bool.not_eq_false', beq_iff_eq, beq_eq_false_iff_ne, bne_iff_ne, bne_eq_false_iff_eq, ne_eq, Bool.and_eq_true, Bool.and_eq_false_iff, Bool.true_and] at *; split at * <;> split at * <;> omega)
  | (refine bool_eq ?_; simp only [decide_eq_true_eq, decide_eq_false_iff_not, Bool.not_eq_true', Bool.not_eq_false', beq_iff_eq, beq_eq_false_iff_ne, bne_iff_ne, bne_eq_false_iff_eq, ne_eq, Bool.and_eq_true, Bool.and_eq_false_iff, Bool.true_and] at *; omega)
  | (refine bool_no ?_; simp only [decide_eq_true_eq, decide_eq_false_iff_not, Bool.not_eq_true', Bool.not_eq_false', beq_iff_eq, beq_eq_false_iff_ne, bne_iff_ne, bne_eq_false_iff_eq, ne_eq, Bool.and_eq_true, Bool.and_eq_false_iff, Bool.true_and] at *; split at * <;> omega)
  | (refine bool_no ?_; simp only [decide_eq_true_eq, decide_eq_false_iff_not, Bool.not_eq_true', Bool.not_eq_false', beq_iff_eq, beq_eq_false_iff_ne, bne_iff_ne, bne_eq_false_iff_eq, ne_eq, Bool.and_eq_true, Bool.and_eq_false_iff, Bool.true_and] at *; omega)
set_option maxRecDepth 100000 in
theorem rcan_vc (F : Ft) (K : AV → Prop) : AF (tab [(168, cyRight)]) 6 145 [.agg (avF F)] K =
 (brc (!Ft.z F) (K (AV.bool false)) (∀ m0 : Bool, m0 = decide (HfOk (Ft.a F)) → brc (!m0) (K (AV.bool false)) (∀ m1 : Bool, m1 = decide (HfOk (Ft.b F)) → brc (!m1) (K (AV.bool false)) (brc (decide (Ft.off F < -50400)) (K (AV.bool false)) (brc (decide (Ft.off F > 50400)) (K (AV.bool false)) (brc (decide (IntKind.wrap .i64 (Hf.m (Ft.a F) - Hf.m (Ft.b F)) < 0)) (brc (decide (IntKind.wrap .i64 (0 - IntKind.wrap .i64 (Hf.m (Ft.a F) - Hf.m (Ft.b F))) ≥ 2)) (K (AV.bool (decide (IntKind.wrap .i64 (0 - IntKind.wrap .i64 (Hf.m (Ft.a F) - Hf.m (Ft.b F))) ≤ 10)))) (K (AV.bool false))) (brc (decide (IntKind.wrap .i64 (Hf.m (Ft.a F) - Hf.m (Ft.b F)) ≥ 2)) (K (AV.bool (decide (IntKind.wrap .i64 (Hf.m (Ft.a F) - Hf.m (Ft.b F)) ≤ 10)))) (K (AV.bool false))))))))) := by kernel_rfl
set_option maxRecDepth 100000 in
theorem cyCanR_ok : COk Tryz.prog 145 cyCan := af_con (kD cyRightR_ok bE) (by kernel_rfl) fun args p v hc hp => by
 unfold cyCan at hc
 split at hc
 case h_2 => cases hc
 split at hc
 case h_2 => cases hc
 rename_i l F hl
 simp only [Option.some.injEq, Prod.mk.injEq] at hc
 obtain ⟨_, rfl⟩ := hc
 rw [rdF_ok hl]
 refine ⟨rfl, 6, ?_⟩
 rw [rcan_vc]
 have no : ∀ {X : Prop}, (FtOk F → X) → ¬ X → AV.bool false = AV.bool (decide (FtOk F)) := fun h k => bool_no fun q => k (h q)
 refine kB (fun h => no (fun q => q.1) (by simpa using h)) fun h0 => ?_
 rintro _ rfl
 refine kB (fun h => no (fun q => q.2.1) (by simpa using h)) fun h1 => ?_
 rintro _ rfl
 refine kB (fun h => no (fun q => q.2.2.1) (by simpa using h)) fun h2 => ?_
 have h1 : HfOk F.a := by simpa using h1
 have h2 : HfOk F.b := by simpa using h2
 have hz : F.z = true := by simpa using h0
 obtain ⟨e1, e2⟩ := abs_wrap ⟨h1.1, h1.2.1⟩ ⟨h2.1, h2.2.1⟩
 rw [e1, e2]
 unfold FtOk
 simp only [hz, h1, h2, true_and]
 clear no h0 e1 e2 h1 h2 hz hp hl
 repeat' (with_reducible refine kB (fun h => ?_) (fun h => ?_))
 all_goals first
  | (refine bool_eq ?_; simp only [decide_eq_true_eq, decide_eq_false_iff_not, Bool.not_eq_true', Bool.not_eq_false', beq_iff_eq, beq_eq_false_iff_ne, bne_iff_ne, bne_eq_false_iff_eq, ne_eq, Bool.and_eq_true, Bool.and_eq_false_iff, Bool.true_and] at *; omega)
  | (refine bool_no ?_; simp only [decide_eq_true_eq, decide_eq_false_iff_not, Bool.not_eq_true', Bool.not_eq_false', beq_iff_eq, beq_eq_false_iff_ne, bne_iff_ne, bne_eq_false_iff_eq, ne_eq, Bool.and_eq_true, Bool.and_eq_false_iff, Bool.true_and] at *; omega)
end
section
open A
theorem ymod {u : Int} (h : -9223372036854775808 ≤ u ∧ u ≤ 9223372036854775807) : (Int.tmod u 86400 < 0 → IntKind.wrap .i64 (IntKind.wrap .i64 (IntKind.wrap .i64 (Int.tdiv u 86400) - 1) - 10957) = dOf u) ∧ (¬ Int.tmod u 86400 < 0 → IntKind.wrap .i64 (IntKind.wrap .i64 (Int.tdiv u 86400) - 10957) = dOf u) := by
 have c := cut_floor u (b := 86400) (by omega)
 have b : -106751991167301 ≤ u / 86400 ∧ u / 86400 ≤ 106751991167301 := by omega
 unfold dOf
 constructor
 · intro g
   obtain ⟨e, _⟩ := c.1 g
   rw [e, wv (x := u / 86400 + 1) (by omega) (by omega), wv (x := u / 86400 + 1 - 1) (by omega) (by omega), wv (by omega) (by omega)]
   omega
 · intro g
   obtain ⟨e, _⟩ := c.2 g
   rw [e, wv (x := u / 86400) (by omega) (by omega), wv (by omega) (by omega)]
set_option maxRecDepth 100000 in
theorem yearat_vc (u : Int) (K : AV → Prop) : AF (tab [(128, ccFirst), (129, ccLast), (130, ccDate)]) 6 92 [.int .i64 u] K =
 (brc (decide (Int.tmod u 86400 < 0)) (∀ m0 : Int, m0 = -2453698 → ∀ m1 : Int, m1 = 106754173 → ∀ (m2 : Int), (m2 = if CanDay (if m1 < if m0 > IntKind.wrap .i64 (IntKind.wrap .i64 (IntKind.wrap .i64 (Int.tdiv u 86400) - 1) - 10957) then m0 else IntKind.wrap .i64 (IntKind.wrap .i64 (IntKind.wrap .i64 (Int.tdiv u 86400) - 1) - 10957) then m1 else if m0 > IntKind.wrap .i64 (IntKind.wrap .i64 (IntKind.wrap .i64 (Int.tdiv u 86400) - 1) - 10957) then m0 else IntKind.wrap .i64 (IntKind.wrap .i64 (IntKind.wrap .i64 (Int.tdiv u 86400) - 1) - 10957)) then yOf (if m1 < if m0 > IntKind.wrap .i64 (IntKind.wrap .i64 (IntKind.wrap .i64 (Int.tdiv u 86400) - 1) - 10957) then m0 else IntKind.wrap .i64 (IntKind.wrap .i64 (IntKind.wrap .i64 (Int.tdiv u 86400) - 1) - 10957) then m1 else if m0 > IntKind.wrap .i64 (IntKind.wrap .i64 (IntKind.wrap .i64 (Int.tdiv u 86400) - 1) - 10957) then m0 else IntKind.wrap .i64 (IntKind.wrap .i64 (IntKind.wrap .i64 (Int.tdiv u 86400) - 1) - 10957)) else 0) → ∀ m3 : Int, m3 = mOf (if m1 < if m0 > IntKind.wrap .i64 (IntKind.wrap .i64 (IntKind.wrap .i64 (Int.tdiv u 86400) - 1) - 10957) then m0 else IntKind.wrap .i64 (IntKind.wrap .i64 (IntKind.wrap .i64 (Int.tdiv u 86400) - 1) - 10957) then m1 else if m0 > IntKind.wrap .i64 (IntKind.wrap .i64 (IntKind.wrap .i64 (Int.tdiv u 86400) - 1) - 10957) then m0 else IntKind.wrap .i64 (IntKind.wrap .i64 (IntKind.wrap .i64 (Int.tdiv u 86400) - 1) - 10957)) → ∀ m4 : Int, m4 = eOf (if m1 < if m0 > IntKind.wrap .i64 (IntKind.wrap .i64 (IntKind.wrap .i64 (Int.tdiv u 86400) - 1) - 10957) then m0 else IntKind.wrap .i64 (IntKind.wrap .i64 (IntKind.wrap .i64 (Int.tdiv u 86400) - 1) - 10957) then m1 else if m0 > IntKind.wrap .i64 (IntKind.wrap .i64 (IntKind.wrap .i64 (Int.tdiv u 86400) - 1) - 10957) then m0 else IntKind.wrap .i64 (IntKind.wrap .i64 (IntKind.wrap .i64 (Int.tdiv u 86400) - 1) - 10957)) → ∀ (m5 : Int), (m5 = if CanDay (if m1 < if m0 > IntKind.wrap .i64 (IntKind.wrap .i64 (IntKind.wrap .i64 (Int.tdiv u 86400) - 1) - 10957) then m0 else IntKind.wrap .i64 (IntKind.wrap .i64 (IntKind.wrap .i64 (Int.tdiv u 86400) - 1) - 10957) then m1 else if m0 > IntKind.wrap .i64 (IntKind.wrap .i64 (IntKind.wrap .i64 (Int.tdiv u 86400) - 1) - 10957) then m0 else IntKind.wrap .i64 (IntKind.wrap .i64 (IntKind.wrap .i64 (Int.tdiv u 86400) - 1) - 10957)) then 0 else 10) → K (AV.int .i64 m2)) (∀ m0 : Int, m0 = -2453698 → ∀ m1 : Int, m1 = 106754173 → ∀ (m2 : Int), (m2 = if CanDay (if m1 < if m0 > IntKind.wrap .i64 (IntKind.wrap .i64 (Int.tdiv u 86400) - 10957) then m0 else IntKind.wrap .i64 (IntKind.wrap .i64 (Int.tdiv u 86400) - 10957) then m1 else if m0 > IntKind.wrap .i64 (IntKind.wrap .i64 (Int.tdiv u 86400) - 10957) then m0 else IntKind.wrap .i64 (IntKind.wrap .i64 (Int.tdiv u 86400) - 10957)) then yOf (if m1 < if m0 > IntKind.wrap .i64 (IntKind.wrap .i64 (Int.tdiv u 86400) - 10957) then m0 else IntKind.wrap .i64 (IntKind.wrap .i64 (Int.tdiv u 86400) - 10957) then m1 else if m0 > IntKind.wrap .i64 (IntKind.wrap .i64 (Int.tdiv u 86400) - 10957) then m0 else IntKind.wrap .i64 (IntKind.wrap .i64 (Int.tdiv u 86400) - 10957)) else 0) → ∀ m3 : Int, m3 = mOf (if m1 < if m0 > IntKind.wrap .i64 (IntKind.wrap .i64 (Int.tdiv u 86400) - 10957) then m0 else IntKind.wrap .i64 (IntKind.wrap .i64 (Int.tdiv u 86400) - 10957) then m1 else if m0 > IntKind.wrap .i64 (IntKind.wrap .i64 (Int.tdiv u 86400) - 10957) then m0 else IntKind.wrap .i64 (IntKind.wrap .i64 (Int.tdiv u 86400) - 10957)) → ∀ m4 : Int, m4 = eOf (if m1 < if m0 > IntKind.wrap .i64 (IntKind.wrap .i64 (Int.tdiv u 86400) - 10957) then m0 else IntKind.wrap .i64 (IntKind.wrap .i64 (Int.tdiv u 86400) - 10957) then m1 else if m0 > IntKind.wrap .i64 (IntKind.wrap .i64 (Int.tdiv u 86400) - 10957) then m0 else IntKind.wrap .i64 (IntKind.wrap .i64 (Int.tdiv u 86400) - 10957)) → ∀ (m5 : Int), (m5 = if CanDay (if m1 < if m0 > IntKind.wrap .i64 (IntKind.wrap .i64 (Int.tdiv u 86400) - 10957) then m0 else IntKind.wrap .i64 (IntKind.wrap .i64 (Int.tdiv u 86400) - 10957) then m1 else if m0 > IntKind.wrap .i64 (IntKind.wrap .i64 (Int.tdiv u 86400) - 10957) then m0 else IntKind.wrap .i64 (IntKind.wrap .i64 (Int.tdiv u 86400) - 10957)) then 0 else 10) → K (AV.int .i64 m2))) := by kernel_rfl
theorem clamp_year (n : Int) : (if CanDay (if (106754173 : Int) < (if (-2453698 : Int) > n then -2453698 else n) then 106754173 else (if (-2453698 : Int) > n then -2453698 else n)) then yOf (if (106754173 : Int) < (if (-2453698 : Int) > n then -2453698 else n) then 106754173 else (if (-2453698 : Int) > n then -2453698 else n)) else 0) = if n < -2453698 then -4718 else if n > 106754173 then 294282 else yOf n := by
 have e1 : yOf (-2453698) = -4718 := yOf_date (m := 1) (d := 1) ⟨by omega, by omega, by omega, by decide, by decide⟩
 have e2 : yOf 106754173 = 294282 := yOf_date (m := 12) (d := 31) ⟨by omega, by omega, by omega, by decide, by decide⟩
 have c1 : CanDay (-2453698) := by unfold CanDay; omega
 have c2 : CanDay 106754173 := by unfold CanDay; omega
 by_cases h1 : n < -2453698
 · rw [if_pos (show (-2453698 : Int) > n by omega), if_neg (show ¬ (106754173 : Int) < -2453698 by omega), if_pos c1, if_pos h1, e1]
 · rw [if_neg (show ¬ (-2453698 : Int) > n by omega), if_neg h1]
   by_cases h2 : n > 106754173
   · rw [if_pos (show (106754173 : Int) < n by omega), if_pos c2, if_pos h2, e2]
   · have c3 : CanDay n := by unfold CanDay; omega
     rw [if_neg (show ¬ (106754173 : Int) < n by omega), if_pos c3, if_neg h2]
theorem cyYear_ok : COk Tryz.prog 92 cyYear := af_con (kD ccFirst_ok (kD ccLast_ok (kD ccDate_ok bE))) (by kernel_rfl) fun args p v hc hp => by
 unfold cyYear at hc
 split at hc
 case h_2 => cases hc
 rename_i u
 simp only [Option.some.injEq, Prod.mk.injEq] at hc
 obtain ⟨rfl, rfl⟩ := hc
 have hu := of_decide_eq_true hp
 have hy := ymod hu
 refine ⟨rfl, 6, ?_⟩
 rw [yearat_vc]
 refine kB (fun h => ?_) fun h => ?_
 · rw [hy.1 (of_decide_eq_true h)]
   rintro _ rfl _ rfl _ rfl _ rfl _ rfl _ rfl
   rw [clamp_year]; rfl
 · rw [hy.2 (of_decide_eq_false h)]
   rintro _ rfl _ rfl _ rfl _ rfl _ rfl _ rfl
   rw [clamp_year]; rfl
set_option maxRecDepth 100000 in
theorem ryearat_vc (u : Int) (K : AV → Prop) : AF (tab [(108, ccFirst), (107, ccDate)]) 6 63 [.int .i64 u] K =
 (brc (decide (Int.tmod u 86400 < 0)) (∀ m0 : Int, m0 = -2453698 → brc (decide (IntKind.wrap .i64 (IntKind.wrap .i64 (IntKind.wrap .i64 (Int.tdiv u 86400) - 1) - 10957) < m0)) (K (AV.int .i64 (-4718))) (∀ (m1 : Int), (m1 = if CanDay (IntKind.wrap .i64 (IntKind.wrap .i64 (IntKind.wrap .i64 (Int.tdiv u 86400) - 1) - 10957)) then yOf (IntKind.wrap .i64 (IntKind.wrap .i64 (IntKind.wrap .i64 (Int.tdiv u 86400) - 1) - 10957)) else 0) → ∀ m2 : Int, m2 = mOf (IntKind.wrap .i64 (IntKind.wrap .i64 (IntKind.wrap .i64 (Int.tdiv u 86400) - 1) - 10957)) → ∀ m3 : Int, m3 = eOf (IntKind.wrap .i64 (IntKind.wrap .i64 (IntKind.wrap .i64 (Int.tdiv u 86400) - 1) - 10957)) → ∀ (m4 : Int), (m4 = if CanDay (IntKind.wrap .i64 (IntKind.wrap .i64 (IntKind.wrap .i64 (Int.tdiv u 86400) - 1) - 10957)) then 0 else 10) → brc (m4 != 0) (K (AV.int .i64 294282)) (K (AV.int .i64 m1)))) (∀ m0 : Int, m0 = -2453698 → brc (decide (IntKind.wrap .i64 (IntKind.wrap .i64 (Int.tdiv u 86400) - 10957) < m0)) (K (AV.int .i64 (-4718))) (∀ (m1 : Int), (m1 = if CanDay (IntKind.wrap .i64 (IntKind.wrap .i64 (Int.tdiv u 86400) - 10957)) then yOf (IntKind.wrap .i64 (IntKind.wrap .i64 (Int.tdiv u 86400) - 10957)) else 0) → ∀ m2 : Int, m2 = mOf (IntKind.wrap .i64 (IntKind.wrap .i64 (Int.tdiv u 86400) - 10957)) → ∀ m3 : Int, m3 = eOf (IntKind.wrap .i64 (IntKind.wrap .i64 (Int.tdiv u 86400) - 10957)) → ∀ (m4 : Int), (m4 = if CanDay (IntKind.wrap .i64 (IntKind.wrap .i64 (Int.tdiv u 86400) - 10957)) then 0 else 10) → brc (m4 != 0) (K (AV.int .i64 294282)) (K (AV.int .i64 m1))))) := by kernel_rfl
theorem cyYearR_ok : COk Tryz.prog 63 cyYear := af_con (kD ccFirst_okR (kD ccDate_okR bE)) (by kernel_rfl) fun args p v hc hp => by
 unfold cyYear at hc
 split at hc
 case h_2 => cases hc
 rename_i u
 simp only [Option.some.injEq, Prod.mk.injEq] at hc
 obtain ⟨rfl, rfl⟩ := hc
 have hu := of_decide_eq_true hp
 have hy := ymod hu
 refine ⟨rfl, 6, ?_⟩
 rw [ryearat_vc]
 have fin : ∀ n, n = dOf u → brc (decide (n < -2453698)) (AV.int .i64 (-4718) = AV.int .i64 (yAt u)) (∀ m1 : Int, (m1 = if CanDay n then yOf n else 0) → ∀ m2 : Int, m2 = mOf n → ∀ m3 : Int, m3 = eOf n → ∀ m4 : Int, (m4 = if CanDay n then 0 else 10) → brc (m4 != 0) (AV.int .i64 294282 = AV.int .i64 (yAt u)) (AV.int .i64 m1 = AV.int .i64 (yAt u))) := by
  rintro n rfl
  unfold yAt
  refine kB (fun g => ?_) fun g => ?_
  · rw [if_pos (of_decide_eq_true g)]
  · have g := of_decide_eq_false g
    rintro _ rfl _ rfl _ rfl _ rfl
    rw [if_neg g]
    by_cases c : CanDay (dOf u)
    · have d := c
      unfold CanDay at d
      rw [if_pos c, if_pos c, if_neg (by omega)]
      exact brcF rfl rfl
    · have d := c
      unfold CanDay at d
      rw [if_neg c, if_neg c, if_pos (by omega)]
      exact brcT rfl rfl
 refine kB (fun h => ?_) fun h => ?_
 · rintro _ rfl
   exact fin _ (hy.1 (of_decide_eq_true h))
 · rintro _ rfl
   exact fin _ (hy.2 (of_decide_eq_false h))
def kT (K : AV → Prop) (m o : Int) (d : Bool) (ab : ByteArray) (e : Int) : Prop := K (.tup [.agg [.int .i64 m, .int .i64 o, .bool d, .str ab], .int .i64 e])
def shQ (F : Ft) (b : Bool) (Y : Int) (C : Int → Int → Bool → Prop) : Prop := brc (decide (FtOk F ∧ -4718 < Y ∧ Y < 294282)) (∀ m : Int, m = (tr F b Y).t → ∀ o : Int, o = (tr F b Y).off → ∀ d : Bool, d = (tr F b Y).dst → C m o d) False
def goA (F : Ft) (u Z : Int) (K : AV → Prop) : Nat → Int → Prop → Prop
 | 0, Y, L => brc (decide (Y ≤ Z)) (shQ F true Y fun _ _ _ => False) L
 | n + 1, Y, L => brc (decide (Y ≤ Z)) (shQ F true Y fun m o d => brc (decide (m > u)) L (shQ F false Y fun m' o' d' => brc (decide (m' > u)) (kT K m o d (tr F true Y).ab 0) (goA F u Z K n (IntKind.wrap .i64 (Y + 1)) (kT K m' o' d' (tr F false Y).ab 0)))) L
def goN (F : Ft) (u Z : Int) (K : AV → Prop) : Nat → Int → Prop → Prop
 | 0, Y, L => brc (decide (Y ≤ Z)) (shQ F true Y fun _ _ _ => False) L
 | n + 1, Y, L => brc (decide (Y ≤ Z)) (shQ F true Y fun m o d => brc (decide (m > u)) (kT K m o d (tr F true Y).ab 0) (shQ F false Y fun m' o' d' => brc (decide (m' > u)) (kT K m' o' d' (tr F false Y).ab 0) (goN F u Z K n (IntKind.wrap .i64 (Y + 1)) L))) L
def bdF (F : Ft) : Bool := decide (-9223372036854775808 ≤ F.a.m ∧ F.a.m ≤ 9223372036854775807 ∧ -9223372036854775808 ≤ F.b.m ∧ F.b.m ≤ 9223372036854775807)
def bdU (u : Int) : Bool := decide (-9223372036854775808 ≤ u ∧ u ≤ 9223372036854775807)
noncomputable def goH (F : Ft) (u : Int) (K : AV → Prop) (C : Int → Prop) : Prop :=
 brc (bdU u) (∀ m0 : Int, m0 = yAt u → brc (bdF F) (∀ m1 : Bool, m1 = decide (FtOk F) → brc (!m1) (kT K 0 0 false ⟨#[]⟩ 1) (brc (decide (m0 < -4714)) (kT K 0 0 false ⟨#[]⟩ 10) (brc (decide (m0 > 294278)) (kT K 0 0 false ⟨#[]⟩ 10) (brc (bdU u) (∀ m2 : Int, m2 = yAt u → C m2) False)))) False) False
set_option maxRecDepth 100000 in
theorem at_vc (F : Ft) (u : Int) (K : AV → Prop) : AF (tab [(92, cyYear), (163, cyCan), (165, cyShift)]) 7 93 [.agg (avF F), .int .i64 u] K =
 goH F u K fun y => goA F u (IntKind.wrap .i64 (y + 2)) K 5 (IntKind.wrap .i64 (y - 2)) (kT K 0 0 false ⟨#[]⟩ 0) := by kernel_rfl
set_option maxRecDepth 100000 in
theorem next_vc (F : Ft) (u : Int) (K : AV → Prop) : AF (tab [(92, cyYear), (163, cyCan), (165, cyShift)]) 7 152 [.agg (avF F), .int .i64 u] K =
 goH F u K fun y => goN F u (IntKind.wrap .i64 (y + 2)) K 5 (IntKind.wrap .i64 (y - 2)) (kT K 0 0 false ⟨#[]⟩ 10) := by kernel_rfl
noncomputable def stV (F : Ft) (u i : Int) : AV := .tup [.agg (avT (tZ F u i)), .int .i64 (err2 F u)]
theorem st_yes {F : Ft} {u i : Int} (h : AskOk F u) : AV.tup [.agg (avT (sI F i)), .int .i64 0] = stV F u i := by
 unfold stV tZ err2
 simp only [if_pos h, if_pos h.1, if_pos h.2]
theorem st_no {F : Ft} {u i : Int} (h : ¬ FtOk F) : AV.tup [.agg [.int .i64 0, .int .i64 0, .bool false, .str ⟨#[]⟩], .int .i64 1] = stV F u i := by
 have h2 : ¬ AskOk F u := fun q => h q.1
 unfold stV tZ err2
 simp only [if_neg h2, if_neg h]
 rfl
theorem st_far {F : Ft} {u i : Int} (h : FtOk F) (k : ¬ (-4714 ≤ yAt u ∧ yAt u ≤ 294278)) : AV.tup [.agg [.int .i64 0, .int .i64 0, .bool false, .str ⟨#[]⟩], .int .i64 10] = stV F u i := by
 have h2 : ¬ AskOk F u := fun q => k q.2
 unfold stV tZ err2
 simp only [if_neg h2, if_pos h, if_neg k]
 rfl
theorem shQ_ok {F : Ft} {b : Bool} {Y : Int} {C : Int → Int → Bool → Prop} (h : FtOk F) (h1 : -4718 < Y) (h2 : Y < 294282) (hC : C (tr F b Y).t (tr F b Y).off (tr F b Y).dst) : shQ F b Y C := by
 refine brcT (decide_eq_true ⟨h, h1, h2⟩) ?_
 rintro _ rfl _ rfl _ rfl
 exact hC
theorem ix_lt {F : Ft} (h : FtOk F) {u i : Int} (g : u < (sI F i).t) : ix F u < i := by
 have s := (ix_spec h u).1
 rcases Int.lt_or_le (ix F u) i with q | q
 · exact q
 · have := sI_le h q; omega
theorem ix_ge {F : Ft} (h : FtOk F) {u i : Int} (g : (sI F i).t ≤ u) : i ≤ ix F u := by
 have s := (ix_spec h u).2
 rcases Int.lt_or_le (ix F u) i with q | q
 · have := sI_le h (i := ix F u + 1) (j := i) (by omega); omega
 · exact q
theorem kT_ok {F : Ft} {u i : Int} (ha : AskOk F u) {b : Bool} {Y : Int} (e : sI F i = tr F b Y) : kT (fun x => x = stV F u i) (tr F b Y).t (tr F b Y).off (tr F b Y).dst (tr F b Y).ab 0 := by
 have := st_yes (i := i) ha
 rw [e] at this
 exact this
theorem goA_ok {F : Ft} {u Z : Int} (ha : AskOk F u) (hZ : Z < 294282) (hu : ix F u ≤ 2 * Z) : ∀ (r : Nat) (Y : Int) (L : Prop), -4718 < Y → 2 * Y - 1 ≤ ix F u → Z - Y < r → (ix F u = 2 * Y - 1 → L) → goA F u Z (fun x => x = stV F u (ix F u)) r Y L := by
 have h := ha.1
 intro r
 induction r with
 | zero => intro Y L h1 h2 h3 hL; omega
 | succ r ih =>
  intro Y L h1 h2 h3 hL
  refine brcT (decide_eq_true (by omega)) (shQ_ok h h1 (by omega) (kB (fun g => ?_) fun g => ?_))
  · have g := of_decide_eq_true g
    rw [← sI_even] at g
    have := ix_lt h g
    exact hL (by omega)
  · have g := of_decide_eq_false g
    rw [← sI_even] at g
    have g2 := ix_ge h (i := 2 * Y) (u := u) (by omega)
    refine shQ_ok h h1 (by omega) (kB (fun q => ?_) fun q => ?_)
    · have q := of_decide_eq_true q
      rw [← sI_odd] at q
      have := ix_lt h q
      exact kT_ok ha (by rw [show ix F u = 2 * Y by omega, sI_even])
    · have q := of_decide_eq_false q
      rw [← sI_odd] at q
      have q2 := ix_ge h (i := 2 * Y + 1) (u := u) (by omega)
      rw [wv (by omega) (by omega)]
      exact ih (Y + 1) _ (by omega) (by omega) (by omega) fun e => kT_ok ha (by rw [show ix F u = 2 * Y + 1 by omega, sI_odd])
theorem goN_ok {F : Ft} {u Z : Int} (ha : AskOk F u) (hZ : Z < 294282) (hu : ix F u ≤ 2 * Z) : ∀ (r : Nat) (Y : Int) (L : Prop), -4718 < Y → 2 * Y - 1 ≤ ix F u → Z - Y < r → goN F u Z (fun x => x = stV F u (ix F u + 1)) r Y L := by
 have h := ha.1
 intro r
 induction r with
 | zero => intro Y L h1 h2 h3; omega
 | succ r ih =>
  intro Y L h1 h2 h3
  refine brcT (decide_eq_true (by omega)) (shQ_ok h h1 (by omega) (kB (fun g => ?_) fun g => ?_))
  · have g := of_decide_eq_true g
    rw [← sI_even] at g
    have := ix_lt h g
    exact kT_ok ha (by rw [show ix F u + 1 = 2 * Y by omega, sI_even])
  · have g := of_decide_eq_false g
    rw [← sI_even] at g
    have g2 := ix_ge h (i := 2 * Y) (u := u) (by omega)
    refine shQ_ok h h1 (by omega) (kB (fun q => ?_) fun q => ?_)
    · have q := of_decide_eq_true q
      rw [← sI_odd] at q
      have := ix_lt h q
      exact kT_ok ha (by rw [show ix F u + 1 = 2 * Y + 1 by omega, sI_odd])
    · have q := of_decide_eq_false q
      rw [← sI_odd] at q
      have q2 := ix_ge h (i := 2 * Y + 1) (u := u) (by omega)
      rw [wv (by omega) (by omega)]
      exact ih (Y + 1) _ (by omega) (by omega) (by omega)
theorem goH_ok {F : Ft} {u i : Int} (hu : bdU u = true) (hF : bdF F = true) {C : Int → Prop} (hC : AskOk F u → C (yAt u)) : goH F u (fun x => x = stV F u i) C := by
 refine brcT hu ?_
 rintro _ rfl
 refine brcT hF ?_
 rintro _ rfl
 by_cases h : FtOk F
 · refine brcF (by simp [h]) (kB (fun g => ?_) fun g => kB (fun q => ?_) fun q => brcT hu ?_)
   · have g := of_decide_eq_true g
     exact st_far h (by omega)
   · have q := of_decide_eq_true q
     exact st_far h (by omega)
   · have g := of_decide_eq_false g
     have q := of_decide_eq_false q
     rintro _ rfl
     exact hC ⟨h, by omega, by omega⟩
 · exact brcT (by simp [h]) (st_no h)
theorem st_open {d : Int} {args : List AV} {p : Bool} {v : AV} (hc : cyStand d args = some (p, v)) (hp : p = true) : ∃ F u, args = [.agg (avF F), .int .i64 u] ∧ v = stV F u (ix F u + d) ∧ bdU u = true ∧ bdF F = true := by
 unfold cyStand at hc
 split at hc
 case h_2 => cases hc
 split at hc
 case h_2 => cases hc
 rename_i u _ F hl
 simp only [Option.some.injEq, Prod.mk.injEq] at hc
 obtain ⟨rfl, rfl⟩ := hc
 obtain ⟨h1, h2, h3⟩ := of_decide_eq_true hp
 exact ⟨F, u, by rw [rdF_ok hl], rfl, decide_eq_true ⟨h1, h2⟩, decide_eq_true h3⟩
theorem ask_year {F : Ft} {u : Int} (h : AskOk F u) : yAt u = yOf (dOf u) ∧ 2 * yAt u - 3 ≤ ix F u ∧ ix F u ≤ 2 * yAt u + 3 ∧ IntKind.wrap .i64 (yAt u + 2) = yAt u + 2 ∧ IntKind.wrap .i64 (yAt u - 2) = yAt u - 2 := by
 obtain ⟨hF, h1, h2⟩ := h
 have e := (yAt_in (u := u) (by omega) (by omega)).1
 have b := ix_bd hF u
 rw [← e] at b
 exact ⟨e, b.1, b.2, wv (by omega) (by omega), wv (by omega) (by omega)⟩
theorem cyAtF_ok : COk Tryz.prog 93 (cyStand 0) := af_con (kD cyYear_ok (kD cyCan_ok (kD cyShift_ok bE))) (by kernel_rfl) fun args p v hc hp => by
 obtain ⟨F, u, rfl, rfl, hu, hF⟩ := st_open hc hp
 refine ⟨rfl, 7, ?_⟩
 rw [at_vc, show ix F u + 0 = ix F u by omega]
 refine goH_ok hu hF fun ha => ?_
 obtain ⟨_, e1, e2, e3, e4⟩ := ask_year ha
 have h1 := ha.2.1
 have h2 := ha.2.2
 rw [e3, e4]
 exact goA_ok ha (by omega) (by omega) 5 _ _ (by omega) (by omega) (by omega) fun e => by omega
theorem cyNextF_ok : COk Tryz.prog 152 (cyStand 1) := af_con (kD cyYear_ok (kD cyCan_ok (kD cyShift_ok bE))) (by kernel_rfl) fun args p v hc hp => by
 obtain ⟨F, u, rfl, rfl, hu, hF⟩ := st_open hc hp
 refine ⟨rfl, 7, ?_⟩
 rw [next_vc]
 refine goH_ok hu hF fun ha => ?_
 obtain ⟨_, e1, e2, e3, e4⟩ := ask_year ha
 have h1 := ha.2.1
 have h2 := ha.2.2
 rw [e3, e4]
 exact goN_ok ha (by omega) (by omega) 5 _ _ (by omega) (by omega) (by omega)
end
end Go.Proofs.YtimgphlfaninnaaGreat.P
