/- How clocks stand at an instant, and when they are shifted next: the program's and the reference's answer, of any foot and instant. -/
import Derived.Test.YtlpnbbonbclddaaQdcmhjkieja
import Derived.Test.YtlpnbbonbclddaaQmbhjhkffcm
namespace Go.Proofs.Ytlpnbbonbclddaa.P
open Go Go.RowKit Go.Proofs.Ytlpnbbonbclddaa.Civ Go.Proofs.Ytlpnbbonbclddaa.Ft
set_option linter.unusedVariables false
set_option linter.unusedSimpArgs false
section
open A
theorem ymod {u : Int} (h : -9223372036854775808 ≤ u ∧ u ≤ 9223372036854775807) : (Int.tmod u 86400 < 0 → IntKind.wrap .i64 (IntKind.wrap .i64 (IntKind.wrap .i64 (Int.tdiv u 86400) - 1) - 10957) = dOf u) ∧ (¬ Int.tmod u 86400 < 0 → IntKind.wrap .i64 (IntKind.wrap .i64 (Int.tdiv u 86400) - 10957) = dOf u) := by
  have c := cut_floor u (b := 86400) (by omega)
  have b : -106751991167301 ≤ u / 86400 ∧ u / 86400 ≤ 106751991167301 := by omega
  unfold dOf
  constructor
  · intro g
    obtain ⟨e, _⟩ := c.1 g
    rw [e, wv (x := u / 86400 + 1) (by omega) (by omega), wv (x := u / 86400 + 1 - 1) (by omega) (by omega), wv (by omega) (by omega)]
    omega
  · intro g
    obtain ⟨e, _⟩ := c.2 g
    rw [e, wv (x := u / 86400) (by omega) (by omega), wv (by omega) (by omega)]
set_option maxRecDepth 100000 in
theorem yearat_vc (u : Int) (K : AV → Prop) : AF (tab [(50, ccFirst), (51, ccLast), (52, ccDate)]) 6 35 [.int .i64 u] K =
    (brc (decide (Int.tmod u 86400 < 0)) (∀ (m0 : Int), m0 = -2453698 → ∀ (m1 : Int), m1 = 106754173 → ∀ (m2 : Int), (m2 = if CanDay (if m1 < if m0 > IntKind.wrap IntKind.i64 (IntKind.wrap IntKind.i64 (IntKind.wrap IntKind.i64 (Int.tdiv u 86400) - 1) - 10957) then m0 else IntKind.wrap IntKind.i64 (IntKind.wrap IntKind.i64 (IntKind.wrap IntKind.i64 (Int.tdiv u 86400) - 1) - 10957) then m1 else if m0 > IntKind.wrap IntKind.i64 (IntKind.wrap IntKind.i64 (IntKind.wrap IntKind.i64 (Int.tdiv u 86400) - 1) - 10957) then m0 else IntKind.wrap IntKind.i64 (IntKind.wrap IntKind.i64 (IntKind.wrap IntKind.i64 (Int.tdiv u 86400) - 1) - 10957)) then yOf (if m1 < if m0 > IntKind.wrap IntKind.i64 (IntKind.wrap IntKind.i64 (IntKind.wrap IntKind.i64 (Int.tdiv u 86400) - 1) - 10957) then m0 else IntKind.wrap IntKind.i64 (IntKind.wrap IntKind.i64 (IntKind.wrap IntKind.i64 (Int.tdiv u 86400) - 1) - 10957) then m1 else if m0 > IntKind.wrap IntKind.i64 (IntKind.wrap IntKind.i64 (IntKind.wrap IntKind.i64 (Int.tdiv u 86400) - 1) - 10957) then m0 else IntKind.wrap IntKind.i64 (IntKind.wrap IntKind.i64 (IntKind.wrap IntKind.i64 (Int.tdiv u 86400) - 1) - 10957)) else 0) → ∀ (m3 : Int), m3 = mOf (if m1 < if m0 > IntKind.wrap IntKind.i64 (IntKind.wrap IntKind.i64 (IntKind.wrap IntKind.i64 (Int.tdiv u 86400) - 1) - 10957) then m0 else IntKind.wrap IntKind.i64 (IntKind.wrap IntKind.i64 (IntKind.wrap IntKind.i64 (Int.tdiv u 86400) - 1) - 10957) then m1 else if m0 > IntKind.wrap IntKind.i64 (IntKind.wrap IntKind.i64 (IntKind.wrap IntKind.i64 (Int.tdiv u 86400) - 1) - 10957) then m0 else IntKind.wrap IntKind.i64 (IntKind.wrap IntKind.i64 (IntKind.wrap IntKind.i64 (Int.tdiv u 86400) - 1) - 10957)) → ∀ (m4 : Int), m4 = eOf (if m1 < if m0 > IntKind.wrap IntKind.i64 (IntKind.wrap IntKind.i64 (IntKind.wrap IntKind.i64 (Int.tdiv u 86400) - 1) - 10957) then m0 else IntKind.wrap IntKind.i64 (IntKind.wrap IntKind.i64 (IntKind.wrap IntKind.i64 (Int.tdiv u 86400) - 1) - 10957) then m1 else if m0 > IntKind.wrap IntKind.i64 (IntKind.wrap IntKind.i64 (IntKind.wrap IntKind.i64 (Int.tdiv u 86400) - 1) - 10957) then m0 else IntKind.wrap IntKind.i64 (IntKind.wrap IntKind.i64 (IntKind.wrap IntKind.i64 (Int.tdiv u 86400) - 1) - 10957)) → ∀ (m5 : Int), (m5 = if CanDay (if m1 < if m0 > IntKind.wrap IntKind.i64 (IntKind.wrap IntKind.i64 (IntKind.wrap IntKind.i64 (Int.tdiv u 86400) - 1) - 10957) then m0 else IntKind.wrap IntKind.i64 (IntKind.wrap IntKind.i64 (IntKind.wrap IntKind.i64 (Int.tdiv u 86400) - 1) - 10957) then m1 else if m0 > IntKind.wrap IntKind.i64 (IntKind.wrap IntKind.i64 (IntKind.wrap IntKind.i64 (Int.tdiv u 86400) - 1) - 10957) then m0 else IntKind.wrap IntKind.i64 (IntKind.wrap IntKind.i64 (IntKind.wrap IntKind.i64 (Int.tdiv u 86400) - 1) - 10957)) then 0 else 10) → K (AV.int IntKind.i64 m2)) (∀ (m0 : Int), m0 = -2453698 → ∀ (m1 : Int), m1 = 106754173 → ∀ (m2 : Int), (m2 = if CanDay (if m1 < if m0 > IntKind.wrap IntKind.i64 (IntKind.wrap IntKind.i64 (Int.tdiv u 86400) - 10957) then m0 else IntKind.wrap IntKind.i64 (IntKind.wrap IntKind.i64 (Int.tdiv u 86400) - 10957) then m1 else if m0 > IntKind.wrap IntKind.i64 (IntKind.wrap IntKind.i64 (Int.tdiv u 86400) - 10957) then m0 else IntKind.wrap IntKind.i64 (IntKind.wrap IntKind.i64 (Int.tdiv u 86400) - 10957)) then yOf (if m1 < if m0 > IntKind.wrap IntKind.i64 (IntKind.wrap IntKind.i64 (Int.tdiv u 86400) - 10957) then m0 else IntKind.wrap IntKind.i64 (IntKind.wrap IntKind.i64 (Int.tdiv u 86400) - 10957) then m1 else if m0 > IntKind.wrap IntKind.i64 (IntKind.wrap IntKind.i64 (Int.tdiv u 86400) - 10957) then m0 else IntKind.wrap IntKind.i64 (IntKind.wrap IntKind.i64 (Int.tdiv u 86400) - 10957)) else 0) → ∀ (m3 : Int), m3 = mOf (if m1 < if m0 > IntKind.wrap IntKind.i64 (IntKind.wrap IntKind.i64 (Int.tdiv u 86400) - 10957) then m0 else IntKind.wrap IntKind.i64 (IntKind.wrap IntKind.i64 (Int.tdiv u 86400) - 10957) then m1 else if m0 > IntKind.wrap IntKind.i64 (IntKind.wrap IntKind.i64 (Int.tdiv u 86400) - 10957) then m0 else IntKind.wrap IntKind.i64 (IntKind.wrap IntKind.i64 (Int.tdiv u 86400) - 10957)) → ∀ (m4 : Int), m4 = eOf (if m1 < if m0 > IntKind.wrap IntKind.i64 (IntKind.wrap IntKind.i64 (Int.tdiv u 86400) - 10957) then m0 else IntKind.wrap IntKind.i64 (IntKind.wrap IntKind.i64 (Int.tdiv u 86400) - 10957) then m1 else if m0 > IntKind.wrap IntKind.i64 (IntKind.wrap IntKind.i64 (Int.tdiv u 86400) - 10957) then m0 else IntKind.wrap IntKind.i64 (IntKind.wrap IntKind.i64 (Int.tdiv u 86400) - 10957)) → ∀ (m5 : Int), (m5 = if CanDay (if m1 < if m0 > IntKind.wrap IntKind.i64 (IntKind.wrap IntKind.i64 (Int.tdiv u 86400) - 10957) then m0 else IntKind.wrap IntKind.i64 (IntKind.wrap IntKind.i64 (Int.tdiv u 86400) - 10957) then m1 else if m0 > IntKind.wrap IntKind.i64 (IntKind.wrap IntKind.i64 (Int.tdiv u 86400) - 10957) then m0 else IntKind.wrap IntKind.i64 (IntKind.wrap IntKind.i64 (Int.tdiv u 86400) - 10957)) then 0 else 10) → K (AV.int IntKind.i64 m2))) := by kernel_rfl
theorem clamp_year (n : Int) : (if CanDay (if (106754173 : Int) < (if (-2453698 : Int) > n then -2453698 else n) then 106754173 else (if (-2453698 : Int) > n then -2453698 else n)) then yOf (if (106754173 : Int) < (if (-2453698 : Int) > n then -2453698 else n) then 106754173 else (if (-2453698 : Int) > n then -2453698 else n)) else 0) = if n < -2453698 then -4718 else if n > 106754173 then 294282 else yOf n := by
  have e1 : yOf (-2453698) = -4718 := yOf_date (m := 1) (d := 1) ⟨by omega, by omega, by omega, by decide, by decide⟩
  have e2 : yOf 106754173 = 294282 := yOf_date (m := 12) (d := 31) ⟨by omega, by omega, by omega, by decide, by decide⟩
  have c1 : CanDay (-2453698) := by unfold CanDay; omega
  have c2 : CanDay 106754173 := by unfold CanDay; omega
  by_cases h1 : n < -2453698
  · rw [if_pos (show (-2453698 : Int) > n by omega), if_neg (show ¬ (106754173 : Int) < -2453698 by omega), if_pos c1, if_pos h1, e1]
  · rw [if_neg (show ¬ (-2453698 : Int) > n by omega), if_neg h1]
    by_cases h2 : n > 106754173
    · rw [if_pos (show (106754173 : Int) < n by omega), if_pos c2, if_pos h2, e2]
    · have c3 : CanDay n := by unfold CanDay; omega
      rw [if_neg (show ¬ (106754173 : Int) < n by omega), if_pos c3, if_neg h2]
theorem cyYear_ok : COk Try.prog 35 cyYear := af_con (tab_cons ccFirst_ok (tab_cons ccLast_ok (tab_cons ccDate_ok tab_nil))) (by kernel_rfl) fun args p v hc hp => by
  unfold cyYear at hc
  split at hc
  case h_2 => cases hc
  rename_i u
  simp only [Option.some.injEq, Prod.mk.injEq] at hc
  obtain ⟨rfl, rfl⟩ := hc
  have hu := of_decide_eq_true hp
  have hy := ymod hu
  refine ⟨rfl, 6, ?_⟩
  rw [yearat_vc]
  refine brc_intro (fun h => ?_) fun h => ?_
  · rw [hy.1 (of_decide_eq_true h)]
    rintro _ rfl _ rfl _ rfl _ rfl _ rfl _ rfl
    rw [clamp_year]; rfl
  · rw [hy.2 (of_decide_eq_false h)]
    rintro _ rfl _ rfl _ rfl _ rfl _ rfl _ rfl
    rw [clamp_year]; rfl
set_option maxRecDepth 100000 in
theorem ryearat_vc (u : Int) (K : AV → Prop) : AF (tab [(53, ccFirst), (54, ccDate)]) 6 37 [.int .i64 u] K =
    (brc (decide (Int.tmod u 86400 < 0)) (∀ (m0 : Int), m0 = -2453698 → brc (decide (IntKind.wrap IntKind.i64 (IntKind.wrap IntKind.i64 (IntKind.wrap IntKind.i64 (Int.tdiv u 86400) - 1) - 10957) < m0)) (K (AV.int IntKind.i64 (-4718))) (∀ (m1 : Int), (m1 = if CanDay (IntKind.wrap IntKind.i64 (IntKind.wrap IntKind.i64 (IntKind.wrap IntKind.i64 (Int.tdiv u 86400) - 1) - 10957)) then yOf (IntKind.wrap IntKind.i64 (IntKind.wrap IntKind.i64 (IntKind.wrap IntKind.i64 (Int.tdiv u 86400) - 1) - 10957)) else 0) → ∀ (m2 : Int), m2 = mOf (IntKind.wrap IntKind.i64 (IntKind.wrap IntKind.i64 (IntKind.wrap IntKind.i64 (Int.tdiv u 86400) - 1) - 10957)) → ∀ (m3 : Int), m3 = eOf (IntKind.wrap IntKind.i64 (IntKind.wrap IntKind.i64 (IntKind.wrap IntKind.i64 (Int.tdiv u 86400) - 1) - 10957)) → ∀ (m4 : Int), (m4 = if CanDay (IntKind.wrap IntKind.i64 (IntKind.wrap IntKind.i64 (IntKind.wrap IntKind.i64 (Int.tdiv u 86400) - 1) - 10957)) then 0 else 10) → brc (m4 != 0) (K (AV.int IntKind.i64 294282)) (K (AV.int IntKind.i64 m1)))) (∀ (m0 : Int), m0 = -2453698 → brc (decide (IntKind.wrap IntKind.i64 (IntKind.wrap IntKind.i64 (Int.tdiv u 86400) - 10957) < m0)) (K (AV.int IntKind.i64 (-4718))) (∀ (m1 : Int), (m1 = if CanDay (IntKind.wrap IntKind.i64 (IntKind.wrap IntKind.i64 (Int.tdiv u 86400) - 10957)) then yOf (IntKind.wrap IntKind.i64 (IntKind.wrap IntKind.i64 (Int.tdiv u 86400) - 10957)) else 0) → ∀ (m2 : Int), m2 = mOf (IntKind.wrap IntKind.i64 (IntKind.wrap IntKind.i64 (Int.tdiv u 86400) - 10957)) → ∀ (m3 : Int), m3 = eOf (IntKind.wrap IntKind.i64 (IntKind.wrap IntKind.i64 (Int.tdiv u 86400) - 10957)) → ∀ (m4 : Int), (m4 = if CanDay (IntKind.wrap IntKind.i64 (IntKind.wrap IntKind.i64 (Int.tdiv u 86400) - 10957)) then 0 else 10) → brc (m4 != 0) (K (AV.int IntKind.i64 294282)) (K (AV.int IntKind.i64 m1))))) := by kernel_rfl
theorem cyYearR_ok : COk Try.prog 37 cyYear := af_con (tab_cons ccFirst_okR (tab_cons ccDate_okR tab_nil)) (by kernel_rfl) fun args p v hc hp => by
  unfold cyYear at hc
  split at hc
  case h_2 => cases hc
  rename_i u
  simp only [Option.some.injEq, Prod.mk.injEq] at hc
  obtain ⟨rfl, rfl⟩ := hc
  have hu := of_decide_eq_true hp
  have hy := ymod hu
  refine ⟨rfl, 6, ?_⟩
  rw [ryearat_vc]
  have fin : ∀ n, n = dOf u → brc (decide (n < -2453698)) (AV.int .i64 (-4718) = AV.int .i64 (yAt u)) (∀ m1 : Int, (m1 = if CanDay n then yOf n else 0) → ∀ m2 : Int, m2 = mOf n → ∀ m3 : Int, m3 = eOf n → ∀ m4 : Int, (m4 = if CanDay n then 0 else 10) → brc (m4 != 0) (AV.int .i64 294282 = AV.int .i64 (yAt u)) (AV.int .i64 m1 = AV.int .i64 (yAt u))) := by
    rintro n rfl
    unfold yAt
    refine brc_intro (fun g => ?_) fun g => ?_
    · rw [if_pos (of_decide_eq_true g)]
    · have g := of_decide_eq_false g
      rintro _ rfl _ rfl _ rfl _ rfl
      rw [if_neg g]
      by_cases c : CanDay (dOf u)
      · have d := c
        unfold CanDay at d
        rw [if_pos c, if_pos c, if_neg (by omega)]
        exact brcF rfl rfl
      · have d := c
        unfold CanDay at d
        rw [if_neg c, if_neg c, if_pos (by omega)]
        exact brcT rfl rfl
  refine brc_intro (fun h => ?_) fun h => ?_
  · rintro _ rfl
    exact fin _ (hy.1 (of_decide_eq_true h))
  · rintro _ rfl
    exact fin _ (hy.2 (of_decide_eq_false h))
def kT (K : AV → Prop) (m o : Int) (d : Bool) (ab : ByteArray) (e : Int) : Prop := K (.tup [.agg [.int .i64 m, .int .i64 o, .bool d, .str ab], .int .i64 e])
def shQ (F : Ft) (b : Bool) (Y : Int) (C : Int → Int → Bool → Prop) : Prop := brc (decide (FtOk F ∧ -4718 < Y ∧ Y < 294282)) (∀ m : Int, m = (tr F b Y).t → ∀ o : Int, o = (tr F b Y).off → ∀ d : Bool, d = (tr F b Y).dst → C m o d) False
def goA (F : Ft) (u Z : Int) (K : AV → Prop) : Nat → Int → Prop → Prop
  | 0, Y, L => brc (decide (Y ≤ Z)) (shQ F true Y fun _ _ _ => False) L
  | n + 1, Y, L => brc (decide (Y ≤ Z)) (shQ F true Y fun m o d => brc (decide (m > u)) L (shQ F false Y fun m' o' d' => brc (decide (m' > u)) (kT K m o d (tr F true Y).ab 0) (goA F u Z K n (IntKind.wrap .i64 (Y + 1)) (kT K m' o' d' (tr F false Y).ab 0)))) L
def goN (F : Ft) (u Z : Int) (K : AV → Prop) : Nat → Int → Prop → Prop
  | 0, Y, L => brc (decide (Y ≤ Z)) (shQ F true Y fun _ _ _ => False) L
  | n + 1, Y, L => brc (decide (Y ≤ Z)) (shQ F true Y fun m o d => brc (decide (m > u)) (kT K m o d (tr F true Y).ab 0) (shQ F false Y fun m' o' d' => brc (decide (m' > u)) (kT K m' o' d' (tr F false Y).ab 0) (goN F u Z K n (IntKind.wrap .i64 (Y + 1)) L))) L
def bdF (F : Ft) : Bool := decide (-9223372036854775808 ≤ F.a.m ∧ F.a.m ≤ 9223372036854775807 ∧ -9223372036854775808 ≤ F.b.m ∧ F.b.m ≤ 9223372036854775807)
def bdU (u : Int) : Bool := decide (-9223372036854775808 ≤ u ∧ u ≤ 9223372036854775807)
noncomputable def goH (F : Ft) (u : Int) (K : AV → Prop) (C : Int → Prop) : Prop :=
  brc (bdU u) (∀ m0 : Int, m0 = yAt u → brc (bdF F) (∀ m1 : Bool, m1 = decide (FtOk F) → brc (!m1) (kT K 0 0 false ⟨#[]⟩ 1) (brc (decide (m0 < -4714)) (kT K 0 0 false ⟨#[]⟩ 10) (brc (decide (m0 > 294278)) (kT K 0 0 false ⟨#[]⟩ 10) (brc (bdU u) (∀ m2 : Int, m2 = yAt u → C m2) False)))) False) False
set_option maxRecDepth 100000 in
theorem at_vc (F : Ft) (u : Int) (K : AV → Prop) : AF (tab [(35, cyYear), (19, cyCan), (20, cyShift)]) 7 14 [.agg (avF F), .int .i64 u] K =
    goH F u K fun y => goA F u (IntKind.wrap .i64 (y + 2)) K 5 (IntKind.wrap .i64 (y - 2)) (kT K 0 0 false ⟨#[]⟩ 0) := by kernel_rfl
set_option maxRecDepth 100000 in
theorem next_vc (F : Ft) (u : Int) (K : AV → Prop) : AF (tab [(35, cyYear), (19, cyCan), (20, cyShift)]) 7 16 [.agg (avF F), .int .i64 u] K =
    goH F u K fun y => goN F u (IntKind.wrap .i64 (y + 2)) K 5 (IntKind.wrap .i64 (y - 2)) (kT K 0 0 false ⟨#[]⟩ 10) := by kernel_rfl
noncomputable def stV (F : Ft) (u i : Int) : AV := .tup [.agg (avT (tZ F u i)), .int .i64 (err2 F u)]
theorem st_yes {F : Ft} {u i : Int} (h : AskOk F u) : AV.tup [.agg (avT (sI F i)), .int .i64 0] = stV F u i := by
  unfold stV tZ err2
  simp only [if_pos h, if_pos h.1, if_pos h.2]
theorem st_no {F : Ft} {u i : Int} (h : ¬ FtOk F) : AV.tup [.agg [.int .i64 0, .int .i64 0, .bool false, .str ⟨#[]⟩], .int .i64 1] = stV F u i := by
  have h2 : ¬ AskOk F u := fun q => h q.1
  unfold stV tZ err2
  simp only [if_neg h2, if_neg h]
  rfl
theorem st_far {F : Ft} {u i : Int} (h : FtOk F) (k : ¬ (-4714 ≤ yAt u ∧ yAt u ≤ 294278)) : AV.tup [.agg [.int .i64 0, .int .i64 0, .bool false, .str ⟨#[]⟩], .int .i64 10] = stV F u i := by
  have h2 : ¬ AskOk F u := fun q => k q.2
  unfold stV tZ err2
  simp only [if_neg h2, if_pos h, if_neg k]
  rfl
theorem shQ_ok {F : Ft} {b : Bool} {Y : Int} {C : Int → Int → Bool → Prop} (h : FtOk F) (h1 : -4718 < Y) (h2 : Y < 294282) (hC : C (tr F b Y).t (tr F b Y).off (tr F b Y).dst) : shQ F b Y C := by
  refine brcT (decide_eq_true ⟨h, h1, h2⟩) ?_
  rintro _ rfl _ rfl _ rfl
  exact hC
theorem ix_lt {F : Ft} (h : FtOk F) {u i : Int} (g : u < (sI F i).t) : ix F u < i := by
  have s := (ix_spec h u).1
  rcases Int.lt_or_le (ix F u) i with q | q
  · exact q
  · have := sI_le h q; omega
theorem ix_ge {F : Ft} (h : FtOk F) {u i : Int} (g : (sI F i).t ≤ u) : i ≤ ix F u := by
  have s := (ix_spec h u).2
  rcases Int.lt_or_le (ix F u) i with q | q
  · have := sI_le h (i := ix F u + 1) (j := i) (by omega); omega
  · exact q
theorem kT_ok {F : Ft} {u i : Int} (ha : AskOk F u) {b : Bool} {Y : Int} (e : sI F i = tr F b Y) : kT (fun x => x = stV F u i) (tr F b Y).t (tr F b Y).off (tr F b Y).dst (tr F b Y).ab 0 := by
  have := st_yes (i := i) ha
  rw [e] at this
  exact this
theorem goA_ok {F : Ft} {u Z : Int} (ha : AskOk F u) (hZ : Z < 294282) (hu : ix F u ≤ 2 * Z) : ∀ (r : Nat) (Y : Int) (L : Prop), -4718 < Y → 2 * Y - 1 ≤ ix F u → Z - Y < r → (ix F u = 2 * Y - 1 → L) → goA F u Z (fun x => x = stV F u (ix F u)) r Y L := by
  have h := ha.1
  intro r
  induction r with
  | zero => intro Y L h1 h2 h3 hL; omega
  | succ r ih =>
    intro Y L h1 h2 h3 hL
    refine brcT (decide_eq_true (by omega)) (shQ_ok h h1 (by omega) (brc_intro (fun g => ?_) fun g => ?_))
    · have g := of_decide_eq_true g
      rw [← sI_even] at g
      have := ix_lt h g
      exact hL (by omega)
    · have g := of_decide_eq_false g
      rw [← sI_even] at g
      have g2 := ix_ge h (i := 2 * Y) (u := u) (by omega)
      refine shQ_ok h h1 (by omega) (brc_intro (fun q => ?_) fun q => ?_)
      · have q := of_decide_eq_true q
        rw [← sI_odd] at q
        have := ix_lt h q
        exact kT_ok ha (by rw [show ix F u = 2 * Y by omega, sI_even])
      · have q := of_decide_eq_false q
        rw [← sI_odd] at q
        have q2 := ix_ge h (i := 2 * Y + 1) (u := u) (by omega)
        rw [wv (by omega) (by omega)]
        exact ih (Y + 1) _ (by omega) (by omega) (by omega) fun e => kT_ok ha (by rw [show ix F u = 2 * Y + 1 by omega, sI_odd])
theorem goN_ok {F : Ft} {u Z : Int} (ha : AskOk F u) (hZ : Z < 294282) (hu : ix F u ≤ 2 * Z) : ∀ (r : Nat) (Y : Int) (L : Prop), -4718 < Y → 2 * Y - 1 ≤ ix F u → Z - Y < r → goN F u Z (fun x => x = stV F u (ix F u + 1)) r Y L := by
  have h := ha.1
  intro r
  induction r with
  | zero => intro Y L h1 h2 h3; omega
  | succ r ih =>
    intro Y L h1 h2 h3
    refine brcT (decide_eq_true (by omega)) (shQ_ok h h1 (by omega) (brc_intro (fun g => ?_) fun g => ?_))
    · have g := of_decide_eq_true g
      rw [← sI_even] at g
      have := ix_lt h g
      exact kT_ok ha (by rw [show ix F u + 1 = 2 * Y by omega, sI_even])
    · have g := of_decide_eq_false g
      rw [← sI_even] at g
      have g2 := ix_ge h (i := 2 * Y) (u := u) (by omega)
      refine shQ_ok h h1 (by omega) (brc_intro (fun q => ?_) fun q => ?_)
      · have q := of_decide_eq_true q
        rw [← sI_odd] at q
        have := ix_lt h q
        exact kT_ok ha (by rw [show ix F u + 1 = 2 * Y + 1 by omega, sI_odd])
      · have q := of_decide_eq_false q
        rw [← sI_odd] at q
        have q2 := ix_ge h (i := 2 * Y + 1) (u := u) (by omega)
        rw [wv (by omega) (by omega)]
        exact ih (Y + 1) _ (by omega) (by omega) (by omega)
theorem goH_ok {F : Ft} {u i : Int} (hu : bdU u = true) (hF : bdF F = true) {C : Int → Prop} (hC : AskOk F u → C (yAt u)) : goH F u (fun x => x = stV F u i) C := by
  refine brcT hu ?_
  rintro _ rfl
  refine brcT hF ?_
  rintro _ rfl
  by_cases h : FtOk F
  · refine brcF (by simp [h]) (brc_intro (fun g => ?_) fun g => brc_intro (fun q => ?_) fun q => brcT hu ?_)
    · have g := of_decide_eq_true g
      exact st_far h (by omega)
    · have q := of_decide_eq_true q
      exact st_far h (by omega)
    · have g := of_decide_eq_false g
      have q := of_decide_eq_false q
      rintro _ rfl
      exact hC ⟨h, by omega, by omega⟩
  · exact brcT (by simp [h]) (st_no h)
theorem st_open {d : Int} {args : List AV} {p : Bool} {v : AV} (hc : cyStand d args = some (p, v)) (hp : p = true) : ∃ F u, args = [.agg (avF F), .int .i64 u] ∧ v = stV F u (ix F u + d) ∧ bdU u = true ∧ bdF F = true := by
  unfold cyStand at hc
  split at hc
  case h_2 => cases hc
  split at hc
  case h_2 => cases hc
  rename_i u _ F hl
  simp only [Option.some.injEq, Prod.mk.injEq] at hc
  obtain ⟨rfl, rfl⟩ := hc
  obtain ⟨h1, h2, h3⟩ := of_decide_eq_true hp
  exact ⟨F, u, by rw [rdF_ok hl], rfl, decide_eq_true ⟨h1, h2⟩, decide_eq_true h3⟩
theorem ask_year {F : Ft} {u : Int} (h : AskOk F u) : yAt u = yOf (dOf u) ∧ 2 * yAt u - 3 ≤ ix F u ∧ ix F u ≤ 2 * yAt u + 3 ∧ IntKind.wrap .i64 (yAt u + 2) = yAt u + 2 ∧ IntKind.wrap .i64 (yAt u - 2) = yAt u - 2 := by
  obtain ⟨hF, h1, h2⟩ := h
  have e := (yAt_in (u := u) (by omega) (by omega)).1
  have b := ix_bd hF u
  rw [← e] at b
  exact ⟨e, b.1, b.2, wv (by omega) (by omega), wv (by omega) (by omega)⟩
theorem cyAtF_ok : COk Try.prog 14 (cyStand 0) := af_con (tab_cons cyYear_ok (tab_cons cyCan_ok (tab_cons cyShift_ok tab_nil))) (by kernel_rfl) fun args p v hc hp => by
  obtain ⟨F, u, rfl, rfl, hu, hF⟩ := st_open hc hp
  refine ⟨rfl, 7, ?_⟩
  rw [at_vc, show ix F u + 0 = ix F u by omega]
  refine goH_ok hu hF fun ha => ?_
  obtain ⟨_, e1, e2, e3, e4⟩ := ask_year ha
  have h1 := ha.2.1
  have h2 := ha.2.2
  rw [e3, e4]
  exact goA_ok ha (by omega) (by omega) 5 _ _ (by omega) (by omega) (by omega) fun e => by omega
theorem cyNextF_ok : COk Try.prog 16 (cyStand 1) := af_con (tab_cons cyYear_ok (tab_cons cyCan_ok (tab_cons cyShift_ok tab_nil))) (by kernel_rfl) fun args p v hc hp => by
  obtain ⟨F, u, rfl, rfl, hu, hF⟩ := st_open hc hp
  refine ⟨rfl, 7, ?_⟩
  rw [next_vc]
  refine goH_ok hu hF fun ha => ?_
  obtain ⟨_, e1, e2, e3, e4⟩ := ask_year ha
  have h1 := ha.2.1
  have h2 := ha.2.2
  rw [e3, e4]
  exact goN_ok ha (by omega) (by omega) 5 _ _ (by omega) (by omega) (by omega)
end
end Go.Proofs.Ytlpnbbonbclddaa.P
