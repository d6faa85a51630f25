/- The reference's answer at an instant, and next: the ten shifts about it, looked through. -/
import Derived.Test.YtlpnbbonbclddaaQaiclfnhmoo
namespace Go.Proofs.Ytlpnbbonbclddaa.P
open Go Go.RowKit Go.Proofs.Ytlpnbbonbclddaa.Civ Go.Proofs.Ytlpnbbonbclddaa.Ft
set_option linter.unusedVariables false
set_option linter.unusedSimpArgs false
section
open A
set_option maxRecDepth 100000 in
theorem ryear_vc (F : Ft) (y : Int) (K : AV → Prop) : AF (tab [(22, cyCan), (23, cyRshift)]) 6 11 [.agg (avF F), .int .i64 y] K =
    (brc (decide (-9223372036854775808 ≤ Hf.m (Ft.a F) ∧ Hf.m (Ft.a F) ≤ 9223372036854775807 ∧ -9223372036854775808 ≤ Hf.m (Ft.b F) ∧ Hf.m (Ft.b F) ≤ 9223372036854775807)) (∀ (m0 : Bool), m0 = decide (FtOk F) → brc (!m0) (K (AV.tup [AV.nilsl, AV.int IntKind.i64 1])) (brc (decide (y ≤ -4718)) (K (AV.tup [AV.nilsl, AV.int IntKind.i64 10])) (brc (decide (y ≥ 294282)) (K (AV.tup [AV.nilsl, AV.int IntKind.i64 10])) (brc (decide (HfOk (Ft.a F) ∧ HfOk (Ft.b F) ∧ -50400 ≤ Ft.off F ∧ Ft.off F ≤ 50400 ∧ -4718 < y ∧ y < 294282)) (∀ (m1 : Int), m1 = Tr.t (tran (Ft.a F) (Ft.b F) (Ft.off F) y) → ∀ (m2 : Int), m2 = Tr.off (tran (Ft.a F) (Ft.b F) (Ft.off F) y) → ∀ (m3 : Bool), m3 = Tr.dst (tran (Ft.a F) (Ft.b F) (Ft.off F) y) → brc (decide (HfOk (Ft.b F) ∧ HfOk (Ft.a F) ∧ -50400 ≤ Ft.off F ∧ Ft.off F ≤ 50400 ∧ -4718 < y ∧ y < 294282)) (∀ (m4 : Int), m4 = Tr.t (tran (Ft.b F) (Ft.a F) (Ft.off F) y) → ∀ (m5 : Int), m5 = Tr.off (tran (Ft.b F) (Ft.a F) (Ft.off F) y) → ∀ (m6 : Bool), m6 = Tr.dst (tran (Ft.b F) (Ft.a F) (Ft.off F) y) → brc (decide (Hf.m (Ft.a F) < Hf.m (Ft.b F))) (K (AV.tup [AV.nu 46 4 2 [AV.int IntKind.i64 m1, AV.int IntKind.i64 m2, AV.bool m3, AV.str (Tr.ab (tran (Ft.a F) (Ft.b F) (Ft.off F) y)), AV.int IntKind.i64 m4, AV.int IntKind.i64 m5, AV.bool m6, AV.str (Tr.ab (tran (Ft.b F) (Ft.a F) (Ft.off F) y))], AV.int IntKind.i64 0])) (K (AV.tup [AV.nu 46 4 2 [AV.int IntKind.i64 m4, AV.int IntKind.i64 m5, AV.bool m6, AV.str (Tr.ab (tran (Ft.b F) (Ft.a F) (Ft.off F) y)), AV.int IntKind.i64 m1, AV.int IntKind.i64 m2, AV.bool m3, AV.str (Tr.ab (tran (Ft.a F) (Ft.b F) (Ft.off F) y))], AV.int IntKind.i64 0]))) False) False)))) False) := by kernel_rfl
theorem cyRyear_ok : COk Try.prog 11 cyRyear := af_con (tab_cons cyCanR_ok (tab_cons cyRshift_ok tab_nil)) (by kernel_rfl) fun args p v hc hp => by
  unfold cyRyear at hc
  split at hc
  case h_2 => cases hc
  split at hc
  case h_2 => cases hc
  rename_i y _ F hl
  simp only [Option.some.injEq, Prod.mk.injEq] at hc
  obtain ⟨rfl, rfl⟩ := hc
  obtain ⟨h, h5, h6⟩ := of_decide_eq_true hp
  rw [rdF_ok hl]
  refine ⟨rfl, 6, ?_⟩
  rw [ryear_vc]
  obtain ⟨_, h1, h2, h3, h4, _⟩ := id h
  refine brcT (decide_eq_true (by have := h1.1; have := h1.2.1; have := h2.1; have := h2.2.1; omega)) ?_
  rintro _ rfl
  refine brcF (by simp [h]) (brcF (decide_eq_false (by omega)) (brcF (decide_eq_false (by omega)) (brcT (decide_eq_true ⟨h1, h2, h3, h4, h5, h6⟩) ?_)))
  rintro _ rfl _ rfl _ rfl
  refine brcT (decide_eq_true ⟨h2, h1, h3, h4, h5, h6⟩) ?_
  rintro _ rfl _ rfl _ rfl
  refine brc_intro (fun hm => ?_) fun hm => ?_
  · have hm := of_decide_eq_true hm
    have e1 : tr F true y = tran F.a F.b F.off y := by simp [tr, fstH, sndH, hm]
    have e2 : tr F false y = tran F.b F.a F.off y := by simp [tr, fstH, sndH, hm]
    rw [e1, e2]; rfl
  · have hm := of_decide_eq_false hm
    have e1 : tr F true y = tran F.b F.a F.off y := by simp [tr, fstH, sndH, hm]
    have e2 : tr F false y = tran F.a F.b F.off y := by simp [tr, fstH, sndH, hm]
    rw [e1, e2]; rfl
def yrQ (F : Ft) (Y : Int) (C : Int → Int → Bool → Int → Int → Bool → Prop) : Prop := brc (decide (FtOk F ∧ -4718 < Y ∧ Y < 294282)) (∀ e : Int, e = 0 → ∀ m : Int, m = (tr F true Y).t → ∀ o : Int, o = (tr F true Y).off → ∀ d : Bool, d = (tr F true Y).dst → ∀ m' : Int, m' = (tr F false Y).t → ∀ o' : Int, o' = (tr F false Y).off → ∀ d' : Bool, d' = (tr F false Y).dst → C m o d m' o' d') False
def outL (c : Nat) (C : List AV) : AV := match c with
  | 0 => .nilsl
  | c => .nu 46 4 c C
def goY (F : Ft) (Z : Int) (K : AV → Prop) : Nat → Int → Nat → List AV → Prop
  | 0, Y, c, C => brc (decide (Y ≤ Z)) (yrQ F Y fun _ _ _ _ _ _ => False) (K (.tup [outL c C, .int .i64 0]))
  | n + 1, Y, c, C => brc (decide (Y ≤ Z)) (yrQ F Y fun m o d m' o' d' => goY F Z K n (IntKind.wrap .i64 (Y + 1)) (c + 2) (C ++ ([.int .i64 m, .int .i64 o, .bool d, .str (tr F true Y).ab] ++ [.int .i64 m', .int .i64 o', .bool d', .str (tr F false Y).ab]))) (K (.tup [outL c C, .int .i64 0]))
set_option maxRecDepth 100000 in
theorem near_vc (F : Ft) (u : Int) (K : AV → Prop) : AF (tab [(37, cyYear), (22, cyCan), (11, cyRyear)]) 7 26 [.agg (avF F), .int .i64 u] K =
    brc (bdF F) (∀ m0 : Bool, m0 = decide (FtOk F) → brc (!m0) (K (.tup [.nilsl, .int .i64 1])) (brc (bdU u) (∀ m1 : Int, m1 = yAt u → brc (decide (m1 < -4714)) (K (.tup [.nilsl, .int .i64 10])) (brc (decide (m1 > 294278)) (K (.tup [.nilsl, .int .i64 10])) (goY F (IntKind.wrap .i64 (m1 + 2)) K 6 (IntKind.wrap .i64 (m1 - 2)) 0 []))) False)) False := by kernel_rfl
theorem goY_step {F : Ft} {Z Y : Int} {K : AV → Prop} {n c : Nat} {C : List AV} (h : FtOk F) (h1 : -4718 < Y) (h2 : Y < 294282) (h3 : Y ≤ Z) (hC : goY F Z K n (Y + 1) (c + 2) (C ++ (avT (tr F true Y) ++ avT (tr F false Y)))) : goY F Z K (n + 1) Y c C := by
  refine brcT (decide_eq_true h3) (brcT (decide_eq_true ⟨h, h1, h2⟩) ?_)
  rintro _ rfl _ rfl _ rfl _ rfl _ rfl _ rfl _ rfl
  rw [wv (by omega) (by omega)]
  exact hC
theorem cyNear_ok : COk Try.prog 26 cyNear := af_con (tab_cons cyYearR_ok (tab_cons cyCanR_ok (tab_cons cyRyear_ok tab_nil))) (by kernel_rfl) fun args p v hc hp => by
  unfold cyNear at hc
  split at hc
  case h_2 => cases hc
  split at hc
  case h_2 => cases hc
  rename_i u _ F hl
  simp only [Option.some.injEq, Prod.mk.injEq] at hc
  obtain ⟨rfl, rfl⟩ := hc
  rw [Bool.and_eq_true] at hp
  have ha := of_decide_eq_true hp.1
  have hu : bdU u = true := hp.2
  rw [rdF_ok hl]
  obtain ⟨_, e1, e2, e3, e4⟩ := ask_year ha
  obtain ⟨h, h1, h2⟩ := id ha
  refine ⟨rfl, 7, ?_⟩
  rw [near_vc]
  obtain ⟨_, g1, g2, _⟩ := id h
  refine brcT (decide_eq_true (by have := g1.1; have := g1.2.1; have := g2.1; have := g2.2.1; omega)) ?_
  rintro _ rfl
  refine brcF (by simp [h]) (brcT hu ?_)
  rintro _ rfl
  refine brcF (decide_eq_false (by omega)) (brcF (decide_eq_false (by omega)) ?_)
  rw [e3, e4]
  refine goY_step h (by omega) (by omega) (by omega) (goY_step h (by omega) (by omega) (by omega) (goY_step h (by omega) (by omega) (by omega) (goY_step h (by omega) (by omega) (by omega) (goY_step h (by omega) (by omega) (by omega) ?_))))
  refine brcF (decide_eq_false (by omega)) ?_
  rfl
set_option maxRecDepth 100000 in
theorem ratno_vc (F : Ft) (u : Int) (K : AV → Prop) : AF (tab [(37, cyYear), (22, cyCan)]) 2 15 [.agg (avF F), .int .i64 u] K =
    (brc (decide (-9223372036854775808 ≤ Hf.m (Ft.a F) ∧ Hf.m (Ft.a F) ≤ 9223372036854775807 ∧ -9223372036854775808 ≤ Hf.m (Ft.b F) ∧ Hf.m (Ft.b F) ≤ 9223372036854775807)) (∀ (m0 : Bool), m0 = decide (FtOk F) → brc (!m0) (K (AV.tup [AV.agg [AV.int IntKind.i64 0, AV.int IntKind.i64 0, AV.bool false, AV.str (ByteArray.mk #[])], AV.int IntKind.i64 1])) (brc (decide (-9223372036854775808 ≤ u ∧ u ≤ 9223372036854775807)) (∀ (m1 : Int), m1 = yAt u → brc (decide (m1 < -4714)) (K (AV.tup [AV.agg [AV.int IntKind.i64 0, AV.int IntKind.i64 0, AV.bool false, AV.str (ByteArray.mk #[])], AV.int IntKind.i64 10])) (brc (decide (m1 > 294278)) (K (AV.tup [AV.agg [AV.int IntKind.i64 0, AV.int IntKind.i64 0, AV.bool false, AV.str (ByteArray.mk #[])], AV.int IntKind.i64 10])) False)) False)) False) := by kernel_rfl
set_option maxRecDepth 100000 in
theorem rnxno_vc (F : Ft) (u : Int) (K : AV → Prop) : AF (tab [(37, cyYear), (22, cyCan)]) 2 17 [.agg (avF F), .int .i64 u] K =
    (brc (decide (-9223372036854775808 ≤ Hf.m (Ft.a F) ∧ Hf.m (Ft.a F) ≤ 9223372036854775807 ∧ -9223372036854775808 ≤ Hf.m (Ft.b F) ∧ Hf.m (Ft.b F) ≤ 9223372036854775807)) (∀ (m0 : Bool), m0 = decide (FtOk F) → brc (!m0) (K (AV.tup [AV.agg [AV.int IntKind.i64 0, AV.int IntKind.i64 0, AV.bool false, AV.str (ByteArray.mk #[])], AV.int IntKind.i64 1])) (brc (decide (-9223372036854775808 ≤ u ∧ u ≤ 9223372036854775807)) (∀ (m1 : Int), m1 = yAt u → brc (decide (m1 < -4714)) (K (AV.tup [AV.agg [AV.int IntKind.i64 0, AV.int IntKind.i64 0, AV.bool false, AV.str (ByteArray.mk #[])], AV.int IntKind.i64 10])) (brc (decide (m1 > 294278)) (K (AV.tup [AV.agg [AV.int IntKind.i64 0, AV.int IntKind.i64 0, AV.bool false, AV.str (ByteArray.mk #[])], AV.int IntKind.i64 10])) False)) False)) False) := by kernel_rfl
/-- The shifts about an instant, looked through from the last one on. -/
def goM (F : Ft) (u : Int) (K : AV → Prop) : Nat → Int → Prop → Prop
  | 0, Y, S => S
  | n + 1, Y, S => ∀ m : Int, m = (tr F true Y).t → ∀ o : Int, o = (tr F true Y).off → ∀ d : Bool, d = (tr F true Y).dst → ∀ m' : Int, m' = (tr F false Y).t → ∀ o' : Int, o' = (tr F false Y).off → ∀ d' : Bool, d' = (tr F false Y).dst →
    goM F u K n (Y + 1) (brc (decide (m' ≤ u)) (kT K m' o' d' (tr F false Y).ab 0) (brc (decide (m ≤ u)) (kT K m o d (tr F true Y).ab 0) S))
/-- The same from the first one on. -/
def goMN (F : Ft) (u : Int) (K : AV → Prop) (E : Prop) : Nat → Int → (Prop → Prop) → Prop
  | 0, Y, C => C E
  | n + 1, Y, C => ∀ m : Int, m = (tr F true Y).t → ∀ o : Int, o = (tr F true Y).off → ∀ d : Bool, d = (tr F true Y).dst → ∀ m' : Int, m' = (tr F false Y).t → ∀ o' : Int, o' = (tr F false Y).off → ∀ d' : Bool, d' = (tr F false Y).dst →
    goMN F u K E n (Y + 1) fun R => C (brc (decide (m > u)) (kT K m o d (tr F true Y).ab 0) (brc (decide (m' > u)) (kT K m' o' d' (tr F false Y).ab 0) R))
set_option maxRecDepth 100000 in
theorem raty_vc (F : Ft) (u : Int) (K : AV → Prop) : AF (tab [(26, cyNear)]) 13 15 [.agg (avF F), .int .i64 u] K =
    brc (decide (AskOk F u) && bdU u) (∀ m0 : Int, m0 = 0 → goM F u K 5 (yAt u - 2) (kT K 0 0 false ⟨#[]⟩ m0)) False := by kernel_rfl
set_option maxRecDepth 100000 in
theorem rnxy_vc (F : Ft) (u : Int) (K : AV → Prop) : AF (tab [(26, cyNear)]) 13 17 [.agg (avF F), .int .i64 u] K =
    brc (decide (AskOk F u) && bdU u) (∀ m0 : Int, m0 = 0 → goMN F u K (kT K 0 0 false ⟨#[]⟩ m0) 5 (yAt u - 2) fun R => R) False := by kernel_rfl
theorem goM_ok {F : Ft} {u : Int} (ha : AskOk F u) : ∀ (n : Nat) (Y : Int) (S : Prop), (ix F u < 2 * Y → S) → ix F u < 2 * (Y + n) → goM F u (fun x => x = stV F u (ix F u)) n Y S := by
  have h := ha.1
  intro n
  induction n with
  | zero => intro Y S hS hn; exact hS (by omega)
  | succ n ih =>
    intro Y S hS hn
    rintro _ rfl _ rfl _ rfl _ rfl _ rfl _ rfl
    refine ih (Y + 1) _ (fun hlt => ?_) (by omega)
    refine brc_intro (fun q => ?_) fun q => brc_intro (fun g => ?_) fun g => ?_
    · have q := of_decide_eq_true q
      rw [← sI_odd] at q
      have := ix_ge h q
      exact kT_ok ha (by rw [show ix F u = 2 * Y + 1 by omega, sI_odd])
    · have q := of_decide_eq_false q
      rw [← sI_odd] at q
      have := ix_lt h (i := 2 * Y + 1) (u := u) (by omega)
      have g := of_decide_eq_true g
      rw [← sI_even] at g
      have := ix_ge h g
      exact kT_ok ha (by rw [show ix F u = 2 * Y by omega, sI_even])
    · have g := of_decide_eq_false g
      rw [← sI_even] at g
      exact hS (ix_lt h (by omega))
theorem goMN_ok {F : Ft} {u : Int} {E : Prop} (ha : AskOk F u) : ∀ (n : Nat) (Y : Int) (C : Prop → Prop), (∀ R : Prop, (2 * Y ≤ ix F u + 1 → R) → C R) → ix F u + 1 < 2 * (Y + n) → goMN F u (fun x => x = stV F u (ix F u + 1)) E n Y C := by
  have h := ha.1
  intro n
  induction n with
  | zero => intro Y C hC hn; exact hC _ fun _ => by omega
  | succ n ih =>
    intro Y C hC hn
    rintro _ rfl _ rfl _ rfl _ rfl _ rfl _ rfl
    refine ih (Y + 1) _ (fun R hR => hC _ fun hle => ?_) (by omega)
    refine brc_intro (fun g => ?_) fun g => brc_intro (fun q => ?_) fun q => ?_
    · have g := of_decide_eq_true g
      rw [← sI_even] at g
      have := ix_lt h g
      exact kT_ok ha (by rw [show ix F u + 1 = 2 * Y by omega, sI_even])
    · have q := of_decide_eq_true q
      rw [← sI_odd] at q
      have := ix_lt h q
      have g := of_decide_eq_false g
      rw [← sI_even] at g
      have := ix_ge h (i := 2 * Y) (u := u) (by omega)
      exact kT_ok ha (by rw [show ix F u + 1 = 2 * Y + 1 by omega, sI_odd])
    · have q := of_decide_eq_false q
      rw [← sI_odd] at q
      have := ix_ge h (i := 2 * Y + 1) (u := u) (by omega)
      exact hR (by omega)
theorem no_head {F : Ft} {u i : Int} (hu : bdU u = true) (hF : bdF F = true) (ha : ¬ AskOk F u) :
    brc (bdF F) (∀ m0 : Bool, m0 = decide (FtOk F) → brc (!m0) (AV.tup [.agg [.int .i64 0, .int .i64 0, .bool false, .str ⟨#[]⟩], .int .i64 1] = stV F u i) (brc (bdU u) (∀ m1 : Int, m1 = yAt u → brc (decide (m1 < -4714)) (AV.tup [.agg [.int .i64 0, .int .i64 0, .bool false, .str ⟨#[]⟩], .int .i64 10] = stV F u i) (brc (decide (m1 > 294278)) (AV.tup [.agg [.int .i64 0, .int .i64 0, .bool false, .str ⟨#[]⟩], .int .i64 10] = stV F u i) False)) False)) False := by
  refine brcT hF ?_
  rintro _ rfl
  by_cases h : FtOk F
  · refine brcF (by simp [h]) (brcT hu ?_)
    rintro _ rfl
    refine brc_intro (fun g => ?_) fun g => brc_intro (fun q => ?_) fun q => ?_
    · have g := of_decide_eq_true g
      exact st_far h (by omega)
    · have q := of_decide_eq_true q
      exact st_far h (by omega)
    · have g := of_decide_eq_false g
      have q := of_decide_eq_false q
      exact ha ⟨h, by omega, by omega⟩
  · exact brcT (by simp [h]) (st_no h)
theorem cyAtR_ok : COk Try.prog 15 (cyStand 0) := by
  intro args p v hc hp w A hA
  obtain ⟨F, u, rfl, rfl, hu, hF⟩ := st_open hc hp
  rw [show ix F u + 0 = ix F u by omega]
  by_cases ha : AskOk F u
  · refine af_gives (tab_cons cyNear_ok tab_nil) (by kernel_rfl) rfl (n := 13) ?_ hA
    rw [raty_vc]
    refine brcT (by rw [hu, decide_eq_true ha]; rfl) ?_
    rintro _ rfl
    obtain ⟨_, e1, e2, _⟩ := ask_year ha
    exact goM_ok ha 5 _ _ (fun e => by omega) (by omega)
  · refine af_gives (tab_cons cyYearR_ok (tab_cons cyCanR_ok tab_nil)) (by kernel_rfl) rfl (n := 2) ?_ hA
    rw [ratno_vc]
    exact no_head hu hF ha
theorem cyNextR_ok : COk Try.prog 17 (cyStand 1) := by
  intro args p v hc hp w A hA
  obtain ⟨F, u, rfl, rfl, hu, hF⟩ := st_open hc hp
  by_cases ha : AskOk F u
  · refine af_gives (tab_cons cyNear_ok tab_nil) (by kernel_rfl) rfl (n := 13) ?_ hA
    rw [rnxy_vc]
    refine brcT (by rw [hu, decide_eq_true ha]; rfl) ?_
    rintro _ rfl
    obtain ⟨_, e1, e2, _⟩ := ask_year ha
    exact goMN_ok ha 5 _ _ (fun R hR => hR (by omega)) (by omega)
  · refine af_gives (tab_cons cyYearR_ok (tab_cons cyCanR_ok tab_nil)) (by kernel_rfl) rfl (n := 2) ?_ hA
    rw [rnxno_vc]
    exact no_head hu hF ha
end
end Go.Proofs.Ytlpnbbonbclddaa.P
