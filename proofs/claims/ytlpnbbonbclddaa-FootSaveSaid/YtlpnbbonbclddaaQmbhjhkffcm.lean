/- Whether a half and a foot can be: the program's, and the reference's. -/
import Derived.Test.YtlpnbbonbclddaaQfjkfpmgahk
namespace Go.Proofs.Ytlpnbbonbclddaa.P
open Go Go.RowKit Go.Proofs.Ytlpnbbonbclddaa.Civ Go.Proofs.Ytlpnbbonbclddaa.Ft
set_option linter.unusedVariables false
set_option linter.unusedSimpArgs false
section
open A
theorem bool_eq {a b : Bool} (h : a = true ↔ b = true) : AV.bool a = AV.bool b := by congr 1; cases a <;> cases b <;> simp_all
theorem dec_eq {P Q : Prop} [Decidable P] [Decidable Q] (h : P → Q) (k : Q → P) : AV.bool (decide P) = AV.bool (decide Q) := by congr 1; exact decide_eq_decide.2 ⟨h, k⟩
theorem bool_no {P : Prop} [Decidable P] (h : ¬ P) : AV.bool false = AV.bool (decide P) := by rw [decide_eq_false h]
set_option maxRecDepth 100000 in
theorem right_vc (h : Hf) (K : AV → Prop) : AF (tab [(38, cyOn), (39, cyAt)]) 6 28 [.agg (avH h)] K =
    (∀ (m0 : Int), (m0 = if OnOk (Hf.k h) (Hf.w h) (Hf.n h) then 0 else 1) → ∀ (m1 : Int), (m1 = if AtOk (Hf.s h) (Hf.c h) then 0 else 1) → brc (decide (Hf.m h ≥ 1)) (brc (decide (Hf.m h ≤ 12)) (brc (m0 == 0) (brc (m1 == 0) (brc (decide (Hf.v h ≥ 0)) (K (AV.bool (decide (Hf.v h ≤ 7200)))) (K (AV.bool false))) (K (AV.bool false))) (K (AV.bool false))) (K (AV.bool false))) (K (AV.bool false))) := by kernel_rfl
set_option maxRecDepth 100000 in
theorem cyRight_ok : COk Try.prog 28 cyRight := af_con (tab_cons cyOn_ok (tab_cons cyAt_ok tab_nil)) (by kernel_rfl) fun args p v hc hp => by
  unfold cyRight at hc
  split at hc
  case h_2 => cases hc
  split at hc
  case h_2 => cases hc
  rename_i l h hl
  simp only [Option.some.injEq, Prod.mk.injEq] at hc
  obtain ⟨_, rfl⟩ := hc
  rw [rdH_ok hl]
  refine ⟨rfl, 6, ?_⟩
  rw [right_vc]
  rintro _ rfl _ rfl
  unfold HfOk
  by_cases h1 : OnOk h.k h.w h.n <;> by_cases h2 : AtOk h.s h.c <;> simp only [h1, h2, if_true, if_false, beq_self_eq_true, brc_tt, brc_ff, show ((1 : Int) == 0) = false from rfl, true_and, and_true, false_and, and_false]
  all_goals
    repeat' (with_reducible refine brc_intro (fun h => ?_) (fun h => ?_))
    all_goals first
      | (refine bool_eq ?_; simp only [decide_eq_true_eq, decide_eq_false_iff_not, Bool.not_eq_true', Bool.not_eq_false', beq_iff_eq, beq_eq_false_iff_ne, bne_iff_ne, bne_eq_false_iff_eq, ne_eq, Bool.and_eq_true, Bool.and_eq_false_iff, Bool.true_and] at *; omega)
      | (refine bool_no ?_; simp only [decide_eq_true_eq, decide_eq_false_iff_not, Bool.not_eq_true', Bool.not_eq_false', beq_iff_eq, beq_eq_false_iff_ne, bne_iff_ne, bne_eq_false_iff_eq, ne_eq, Bool.and_eq_true, Bool.and_eq_false_iff, Bool.true_and] at *; omega)
      | rfl
set_option maxRecDepth 100000 in
theorem rright_vc (h : Hf) (K : AV → Prop) : AF (tab []) 6 32 [.agg (avH h)] K =
    (brc (decide (Hf.m h ≥ 1)) (brc (decide (Hf.m h ≤ 12)) (brc (decide (Hf.w h ≥ 0)) (brc (decide (Hf.n h ≥ 1)) (brc (Hf.k h == 0) (brc (decide (Hf.n h ≤ 31)) (brc (Hf.w h == 0) (brc (decide (Hf.s h ≥ 0)) (brc (decide (Hf.s h ≤ 86400)) (brc (Hf.c h == 119) (brc (decide (Hf.v h ≥ 0)) (K (AV.bool (decide (Hf.v h ≤ 7200)))) (K (AV.bool false))) (brc (Hf.c h == 115) (brc (decide (Hf.v h ≥ 0)) (K (AV.bool (decide (Hf.v h ≤ 7200)))) (K (AV.bool false))) (brc (Hf.c h == 117) (brc (decide (Hf.v h ≥ 0)) (K (AV.bool (decide (Hf.v h ≤ 7200)))) (K (AV.bool false))) (K (AV.bool false))))) (K (AV.bool false))) (K (AV.bool false))) (K (AV.bool false))) (K (AV.bool false))) (brc (Hf.k h == 1) (brc (decide (Hf.w h ≤ 6)) (brc (Hf.n h == 0) (brc (decide (Hf.s h ≥ 0)) (brc (decide (Hf.s h ≤ 86400)) (brc (Hf.c h == 119) (brc (decide (Hf.v h ≥ 0)) (K (AV.bool (decide (Hf.v h ≤ 7200)))) (K (AV.bool false))) (brc (Hf.c h == 115) (brc (decide (Hf.v h ≥ 0)) (K (AV.bool (decide (Hf.v h ≤ 7200)))) (K (AV.bool false))) (brc (Hf.c h == 117) (brc (decide (Hf.v h ≥ 0)) (K (AV.bool (decide (Hf.v h ≤ 7200)))) (K (AV.bool false))) (K (AV.bool false))))) (K (AV.bool false))) (K (AV.bool false))) (K (AV.bool false))) (K (AV.bool false))) (brc (Hf.k h == 2) (brc (decide (Hf.w h ≤ 6)) (brc (decide (Hf.n h ≤ 31)) (brc (decide (Hf.s h ≥ 0)) (brc (decide (Hf.s h ≤ 86400)) (brc (Hf.c h == 119) (brc (decide (Hf.v h ≥ 0)) (K (AV.bool (decide (Hf.v h ≤ 7200)))) (K (AV.bool false))) (brc (Hf.c h == 115) (brc (decide (Hf.v h ≥ 0)) (K (AV.bool (decide (Hf.v h ≤ 7200)))) (K (AV.bool false))) (brc (Hf.c h == 117) (brc (decide (Hf.v h ≥ 0)) (K (AV.bool (decide (Hf.v h ≤ 7200)))) (K (AV.bool false))) (K (AV.bool false))))) (K (AV.bool false))) (K (AV.bool false))) (K (AV.bool false))) (K (AV.bool false))) (brc (Hf.k h == 3) (brc (decide (Hf.w h ≤ 6)) (brc (decide (Hf.n h ≤ 31)) (brc (decide (Hf.s h ≥ 0)) (brc (decide (Hf.s h ≤ 86400)) (brc (Hf.c h == 119) (brc (decide (Hf.v h ≥ 0)) (K (AV.bool (decide (Hf.v h ≤ 7200)))) (K (AV.bool false))) (brc (Hf.c h == 115) (brc (decide (Hf.v h ≥ 0)) (K (AV.bool (decide (Hf.v h ≤ 7200)))) (K (AV.bool false))) (brc (Hf.c h == 117) (brc (decide (Hf.v h ≥ 0)) (K (AV.bool (decide (Hf.v h ≤ 7200)))) (K (AV.bool false))) (K (AV.bool false))))) (K (AV.bool false))) (K (AV.bool false))) (K (AV.bool false))) (K (AV.bool false))) (K (AV.bool false)))))) (brc (Hf.k h == 0) (K (AV.bool false)) (brc (Hf.k h == 1) (brc (decide (Hf.w h ≤ 6)) (brc (Hf.n h == 0) (brc (decide (Hf.s h ≥ 0)) (brc (decide (Hf.s h ≤ 86400)) (brc (Hf.c h == 119) (brc (decide (Hf.v h ≥ 0)) (K (AV.bool (decide (Hf.v h ≤ 7200)))) (K (AV.bool false))) (brc (Hf.c h == 115) (brc (decide (Hf.v h ≥ 0)) (K (AV.bool (decide (Hf.v h ≤ 7200)))) (K (AV.bool false))) (brc (Hf.c h == 117) (brc (decide (Hf.v h ≥ 0)) (K (AV.bool (decide (Hf.v h ≤ 7200)))) (K (AV.bool false))) (K (AV.bool false))))) (K (AV.bool false))) (K (AV.bool false))) (K (AV.bool false))) (K (AV.bool false))) (brc (Hf.k h == 2) (brc (decide (Hf.w h ≤ 6)) (K (AV.bool false)) (K (AV.bool false))) (brc (Hf.k h == 3) (brc (decide (Hf.w h ≤ 6)) (K (AV.bool false)) (K (AV.bool false))) (K (AV.bool false))))))) (brc (decide (Hf.n h ≥ 1)) (brc (Hf.k h == 0) (brc (decide (Hf.n h ≤ 31)) (brc (Hf.w h == 0) (brc (decide (Hf.s h ≥ 0)) (brc (decide (Hf.s h ≤ 86400)) (brc (Hf.c h == 119) (brc (decide (Hf.v h ≥ 0)) (K (AV.bool (decide (Hf.v h ≤ 7200)))) (K (AV.bool false))) (brc (Hf.c h == 115) (brc (decide (Hf.v h ≥ 0)) (K (AV.bool (decide (Hf.v h ≤ 7200)))) (K (AV.bool false))) (brc (Hf.c h == 117) (brc (decide (Hf.v h ≥ 0)) (K (AV.bool (decide (Hf.v h ≤ 7200)))) (K (AV.bool false))) (K (AV.bool false))))) (K (AV.bool false))) (K (AV.bool false))) (K (AV.bool false))) (K (AV.bool false))) (brc (Hf.k h == 1) (K (AV.bool false)) (brc (Hf.k h == 2) (K (AV.bool false)) (brc (Hf.k h == 3) (K (AV.bool false)) (K (AV.bool false)))))) (brc (Hf.k h == 0) (K (AV.bool false)) (brc (Hf.k h == 1) (K (AV.bool false)) (brc (Hf.k h == 2) (K (AV.bool false)) (brc (Hf.k h == 3) (K (AV.bool false)) (K (AV.bool false)))))))) (K (AV.bool false))) (K (AV.bool false))) := by kernel_rfl
set_option maxRecDepth 100000 in
set_option maxHeartbeats 2000000 in
theorem cyRightR_ok : COk Try.prog 32 cyRight := af_con tab_nil (by kernel_rfl) fun args p v hc hp => by
  unfold cyRight at hc
  split at hc
  case h_2 => cases hc
  split at hc
  case h_2 => cases hc
  rename_i l h hl
  simp only [Option.some.injEq, Prod.mk.injEq] at hc
  obtain ⟨_, rfl⟩ := hc
  rw [rdH_ok hl]
  refine ⟨rfl, 6, ?_⟩
  rw [rright_vc]
  unfold HfOk OnOk AtOk
  clear hl hp
  repeat' (with_reducible refine brc_intro (fun h => ?_) (fun h => ?_))
  all_goals simp only [decide_eq_true_eq, decide_eq_false_iff_not, Bool.not_eq_true', Bool.not_eq_false', beq_iff_eq, beq_eq_false_iff_ne, bne_iff_ne, bne_eq_false_iff_eq, ne_eq, Bool.and_eq_true, Bool.and_eq_false_iff, Bool.true_and] at *
  all_goals first
    | (refine dec_eq (fun q => ?_) fun q => ?_; (repeat' apply And.intro) <;> omega; omega)
    | (refine bool_no ?_; omega)
theorem abs_wrap {a b : Int} (h1 : 1 ≤ a ∧ a ≤ 12) (h2 : 1 ≤ b ∧ b ≤ 12) : IntKind.wrap .i64 (a - b) = a - b ∧ IntKind.wrap .i64 (0 - (a - b)) = b - a := by
  rw [wv (x := a - b) (by omega) (by omega), wv (by omega) (by omega)]; omega
set_option maxRecDepth 100000 in
theorem can_vc (F : Ft) (K : AV → Prop) : AF (tab [(28, cyRight)]) 6 19 [.agg (avF F)] K =
    (brc (!Ft.z F) (K (AV.bool false)) (∀ (m0 : Bool), m0 = decide (HfOk (Ft.a F)) → brc (!m0) (K (AV.bool false)) (∀ (m1 : Bool), m1 = decide (HfOk (Ft.b F)) → brc (!m1) (K (AV.bool false)) (brc (decide (Ft.off F < -50400)) (K (AV.bool false)) (brc (decide (Ft.off F > 50400)) (K (AV.bool false)) (brc (decide ((if IntKind.wrap IntKind.i64 (0 - IntKind.wrap IntKind.i64 (Hf.m (Ft.a F) - Hf.m (Ft.b F))) > IntKind.wrap IntKind.i64 (Hf.m (Ft.a F) - Hf.m (Ft.b F)) then IntKind.wrap IntKind.i64 (0 - IntKind.wrap IntKind.i64 (Hf.m (Ft.a F) - Hf.m (Ft.b F))) else IntKind.wrap IntKind.i64 (Hf.m (Ft.a F) - Hf.m (Ft.b F))) ≥ 2)) (K (AV.bool (decide ((if IntKind.wrap IntKind.i64 (0 - IntKind.wrap IntKind.i64 (Hf.m (Ft.a F) - Hf.m (Ft.b F))) > IntKind.wrap IntKind.i64 (Hf.m (Ft.a F) - Hf.m (Ft.b F)) then IntKind.wrap IntKind.i64 (0 - IntKind.wrap IntKind.i64 (Hf.m (Ft.a F) - Hf.m (Ft.b F))) else IntKind.wrap IntKind.i64 (Hf.m (Ft.a F) - Hf.m (Ft.b F))) ≤ 10)))) (K (AV.bool false)))))))) := by kernel_rfl
set_option maxRecDepth 100000 in
theorem cyCan_ok : COk Try.prog 19 cyCan := af_con (tab_cons cyRight_ok tab_nil) (by kernel_rfl) fun args p v hc hp => by
  unfold cyCan at hc
  split at hc
  case h_2 => cases hc
  split at hc
  case h_2 => cases hc
  rename_i l F hl
  simp only [Option.some.injEq, Prod.mk.injEq] at hc
  obtain ⟨_, rfl⟩ := hc
  rw [rdF_ok hl]
  refine ⟨rfl, 6, ?_⟩
  rw [can_vc]
  have no : ∀ {X : Prop}, (FtOk F → X) → ¬ X → AV.bool false = AV.bool (decide (FtOk F)) := fun h k => bool_no fun q => k (h q)
  refine brc_intro (fun h => no (fun q => q.1) (by simpa using h)) fun h0 => ?_
  rintro _ rfl
  refine brc_intro (fun h => no (fun q => q.2.1) (by simpa using h)) fun h1 => ?_
  rintro _ rfl
  refine brc_intro (fun h => no (fun q => q.2.2.1) (by simpa using h)) fun h2 => ?_
  have h1 : HfOk F.a := by simpa using h1
  have h2 : HfOk F.b := by simpa using h2
  have hz : F.z = true := by simpa using h0
  obtain ⟨e1, e2⟩ := abs_wrap ⟨h1.1, h1.2.1⟩ ⟨h2.1, h2.2.1⟩
  rw [e1, e2]
  unfold FtOk
  simp only [hz, h1, h2, true_and]
  clear no h0 e1 e2 h1 h2 hz hp hl
  repeat' (with_reducible refine brc_intro (fun h => ?_) (fun h => ?_))
  all_goals first
    | (refine bool_eq ?_; simp only [decide_eq_true_eq, decide_eq_false_iff_not, Bool.not_eq_true', Bool.not_eq_false', beq_iff_eq, beq_eq_false_iff_ne, bne_iff_ne, bne_eq_false_iff_eq, ne_eq, Bool.and_eq_true, Bool.and_eq_false_iff, Bool.true_and] at *; split at * <;> split at * <;> omega)
    | (refine bool_eq ?_; simp only [decide_eq_true_eq, decide_eq_false_iff_not, Bool.not_eq_true', Bool.not_eq_false', beq_iff_eq, beq_eq_false_iff_ne, bne_iff_ne, bne_eq_false_iff_eq, ne_eq, Bool.and_eq_true, Bool.and_eq_false_iff, Bool.true_and] at *; omega)
    | (refine bool_no ?_; simp only [decide_eq_true_eq, decide_eq_false_iff_not, Bool.not_eq_true', Bool.not_eq_false', beq_iff_eq, beq_eq_false_iff_ne, bne_iff_ne, bne_eq_false_iff_eq, ne_eq, Bool.and_eq_true, Bool.and_eq_false_iff, Bool.true_and] at *; split at * <;> omega)
    | (refine bool_no ?_; simp only [decide_eq_true_eq, decide_eq_false_iff_not, Bool.not_eq_true', Bool.not_eq_false', beq_iff_eq, beq_eq_false_iff_ne, bne_iff_ne, bne_eq_false_iff_eq, ne_eq, Bool.and_eq_true, Bool.and_eq_false_iff, Bool.true_and] at *; omega)
set_option maxRecDepth 100000 in
theorem rcan_vc (F : Ft) (K : AV → Prop) : AF (tab [(32, cyRight)]) 6 22 [.agg (avF F)] K =
    (brc (!Ft.z F) (K (AV.bool false)) (∀ (m0 : Bool), m0 = decide (HfOk (Ft.a F)) → brc (!m0) (K (AV.bool false)) (∀ (m1 : Bool), m1 = decide (HfOk (Ft.b F)) → brc (!m1) (K (AV.bool false)) (brc (decide (Ft.off F < -50400)) (K (AV.bool false)) (brc (decide (Ft.off F > 50400)) (K (AV.bool false)) (brc (decide (IntKind.wrap IntKind.i64 (Hf.m (Ft.a F) - Hf.m (Ft.b F)) < 0)) (brc (decide (IntKind.wrap IntKind.i64 (0 - IntKind.wrap IntKind.i64 (Hf.m (Ft.a F) - Hf.m (Ft.b F))) ≥ 2)) (K (AV.bool (decide (IntKind.wrap IntKind.i64 (0 - IntKind.wrap IntKind.i64 (Hf.m (Ft.a F) - Hf.m (Ft.b F))) ≤ 10)))) (K (AV.bool false))) (brc (decide (IntKind.wrap IntKind.i64 (Hf.m (Ft.a F) - Hf.m (Ft.b F)) ≥ 2)) (K (AV.bool (decide (IntKind.wrap IntKind.i64 (Hf.m (Ft.a F) - Hf.m (Ft.b F)) ≤ 10)))) (K (AV.bool false))))))))) := by kernel_rfl
set_option maxRecDepth 100000 in
theorem cyCanR_ok : COk Try.prog 22 cyCan := af_con (tab_cons cyRightR_ok tab_nil) (by kernel_rfl) fun args p v hc hp => by
  unfold cyCan at hc
  split at hc
  case h_2 => cases hc
  split at hc
  case h_2 => cases hc
  rename_i l F hl
  simp only [Option.some.injEq, Prod.mk.injEq] at hc
  obtain ⟨_, rfl⟩ := hc
  rw [rdF_ok hl]
  refine ⟨rfl, 6, ?_⟩
  rw [rcan_vc]
  have no : ∀ {X : Prop}, (FtOk F → X) → ¬ X → AV.bool false = AV.bool (decide (FtOk F)) := fun h k => bool_no fun q => k (h q)
  refine brc_intro (fun h => no (fun q => q.1) (by simpa using h)) fun h0 => ?_
  rintro _ rfl
  refine brc_intro (fun h => no (fun q => q.2.1) (by simpa using h)) fun h1 => ?_
  rintro _ rfl
  refine brc_intro (fun h => no (fun q => q.2.2.1) (by simpa using h)) fun h2 => ?_
  have h1 : HfOk F.a := by simpa using h1
  have h2 : HfOk F.b := by simpa using h2
  have hz : F.z = true := by simpa using h0
  obtain ⟨e1, e2⟩ := abs_wrap ⟨h1.1, h1.2.1⟩ ⟨h2.1, h2.2.1⟩
  rw [e1, e2]
  unfold FtOk
  simp only [hz, h1, h2, true_and]
  clear no h0 e1 e2 h1 h2 hz hp hl
  repeat' (with_reducible refine brc_intro (fun h => ?_) (fun h => ?_))
  all_goals first
    | (refine bool_eq ?_; simp only [decide_eq_true_eq, decide_eq_false_iff_not, Bool.not_eq_true', Bool.not_eq_false', beq_iff_eq, beq_eq_false_iff_ne, bne_iff_ne, bne_eq_false_iff_eq, ne_eq, Bool.and_eq_true, Bool.and_eq_false_iff, Bool.true_and] at *; omega)
    | (refine bool_no ?_; simp only [decide_eq_true_eq, decide_eq_false_iff_not, Bool.not_eq_true', Bool.not_eq_false', beq_iff_eq, beq_eq_false_iff_ne, bne_iff_ne, bne_eq_false_iff_eq, ne_eq, Bool.and_eq_true, Bool.and_eq_false_iff, Bool.true_and] at *; omega)
end
end Go.Proofs.Ytlpnbbonbclddaa.P
