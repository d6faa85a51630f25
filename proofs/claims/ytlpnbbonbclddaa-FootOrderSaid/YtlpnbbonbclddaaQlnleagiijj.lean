/- The laws of layer 11: what each answers, walked and shown true. -/
import Derived.Test.YtlpnbbonbclddaaQfeiihnkaga
import Derived.Test.YtlpnbbonbclddaaQjmpffjfgnp
import Derived.Test.YtlpnbbonbclddaaQkcbcanjkia
import Derived.Test.YtlpnbbonbclddaaQjdcnbjmghn
namespace Go.Proofs.Ytlpnbbonbclddaa.P
open Go Go.RowKit Go.Proofs.Ytlpnbbonbclddaa.Civ Go.Proofs.Ytlpnbbonbclddaa.Ft
set_option linter.unusedVariables false
set_option linter.unusedSimpArgs false
section
open A
set_option maxRecDepth 100000 in
theorem half_vc (h : Hf) (K : AV → Prop) : AF (tab []) 6 21 [.agg (avH h)] K =
    (K (AV.agg [AV.int IntKind.i64 (Hf.m h), AV.int IntKind.i64 (Hf.k h), AV.int IntKind.i64 (Hf.w h), AV.int IntKind.i64 (Hf.n h), AV.int IntKind.i64 (Hf.s h), AV.int IntKind.u8 (Hf.c h), AV.int IntKind.i64 (Hf.v h), AV.str (Hf.ab h)])) := by kernel_rfl
theorem cyHalf_ok : COk Try.prog 21 cyHalf := af_con tab_nil (by kernel_rfl) fun args p v hc hp => by
  unfold cyHalf at hc
  split at hc
  case h_2 => cases hc
  split at hc
  case h_2 => cases hc
  rename_i h hl
  simp only [Option.some.injEq, Prod.mk.injEq] at hc
  obtain ⟨_, rfl⟩ := hc
  rw [rdH_ok hl]
  refine ⟨rfl, 6, ?_⟩
  rw [half_vc]
  rfl
set_option maxRecDepth 100000 in
theorem given_vc (F : Ft) (K : AV → Prop) : AF (tab [(21, cyHalf)]) 6 10 [.agg (avF F)] K =
    (∀ (m0 : Int), m0 = Hf.m (Ft.a F) → ∀ (m1 : Int), m1 = Hf.k (Ft.a F) → ∀ (m2 : Int), m2 = Hf.w (Ft.a F) → ∀ (m3 : Int), m3 = Hf.n (Ft.a F) → ∀ (m4 : Int), m4 = Hf.s (Ft.a F) → ∀ (m5 : Int), m5 = Hf.c (Ft.a F) → ∀ (m6 : Int), m6 = Hf.v (Ft.a F) → ∀ (m7 : Int), m7 = Hf.m (Ft.b F) → ∀ (m8 : Int), m8 = Hf.k (Ft.b F) → ∀ (m9 : Int), m9 = Hf.w (Ft.b F) → ∀ (m10 : Int), m10 = Hf.n (Ft.b F) → ∀ (m11 : Int), m11 = Hf.s (Ft.b F) → ∀ (m12 : Int), m12 = Hf.c (Ft.b F) → ∀ (m13 : Int), m13 = Hf.v (Ft.b F) → K (AV.agg [AV.bool (Ft.z F), AV.int IntKind.i64 (Ft.fr F), AV.int IntKind.i64 (Ft.off F), AV.int IntKind.i64 m0, AV.int IntKind.i64 m1, AV.int IntKind.i64 m2, AV.int IntKind.i64 m3, AV.int IntKind.i64 m4, AV.int IntKind.u8 m5, AV.int IntKind.i64 m6, AV.str (Hf.ab (Ft.a F)), AV.int IntKind.i64 m7, AV.int IntKind.i64 m8, AV.int IntKind.i64 m9, AV.int IntKind.i64 m10, AV.int IntKind.i64 m11, AV.int IntKind.u8 m12, AV.int IntKind.i64 m13, AV.str (Hf.ab (Ft.b F))])) := by kernel_rfl
theorem cyGiven_ok : COk Try.prog 10 cyGiven := af_con (tab_cons cyHalf_ok tab_nil) (by kernel_rfl) fun args p v hc hp => by
  unfold cyGiven at hc
  split at hc
  case h_2 => cases hc
  split at hc
  case h_2 => cases hc
  rename_i F hl
  simp only [Option.some.injEq, Prod.mk.injEq] at hc
  obtain ⟨_, rfl⟩ := hc
  rw [rdF_ok hl]
  refine ⟨rfl, 6, ?_⟩
  rw [given_vc]
  rintro _ rfl _ rfl _ rfl _ rfl _ rfl _ rfl _ rfl _ rfl _ rfl _ rfl _ rfl _ rfl _ rfl _ rfl
  rfl
/-- A copied foot, its numbers under names. -/
def gvQ (F : Ft) (C : Ft → Prop) : Prop := ∀ z : Bool, z = F.z → ∀ fr : Int, fr = F.fr → ∀ off : Int, off = F.off → ∀ m1 : Int, m1 = F.a.m → ∀ k1 : Int, k1 = F.a.k → ∀ w1 : Int, w1 = F.a.w → ∀ n1 : Int, n1 = F.a.n → ∀ s1 : Int, s1 = F.a.s → ∀ c1 : Int, c1 = F.a.c → ∀ v1 : Int, v1 = F.a.v →
  ∀ m2 : Int, m2 = F.b.m → ∀ k2 : Int, k2 = F.b.k → ∀ w2 : Int, w2 = F.b.w → ∀ n2 : Int, n2 = F.b.n → ∀ s2 : Int, s2 = F.b.s → ∀ c2 : Int, c2 = F.b.c → ∀ v2 : Int, v2 = F.b.v → C ⟨z, fr, off, ⟨m1, k1, w1, n1, s1, c1, v1, F.a.ab⟩, ⟨m2, k2, w2, n2, s2, c2, v2, F.b.ab⟩⟩
theorem gvQ_ok {F : Ft} {C : Ft → Prop} (h : C F) : gvQ F C := by
  rintro _ rfl _ rfl _ rfl _ rfl _ rfl _ rfl _ rfl _ rfl _ rfl _ rfl _ rfl _ rfl _ rfl _ rfl _ rfl _ rfl _ rfl
  exact h
theorem af_calls {T : Tab} (hT : TabOk Try.prog T) {n g : Nat} {args : List AV} (h : AF T n g args fun u => u = .bool true) {w : World} {A : List Value} (hA : RL noNames w args A) : Calls Try.prog g A.toArray w fun e w' => e = .returned (.bool true) ∧ Below w.heap.size w w' := by
  unfold AF at h
  refine (afn_ok mixed hT (ltOk_none Try.prog g) h hA).mono fun e w' he => ?_
  obtain ⟨V, g1, ρ', u, h', g2, g3, g4⟩ := he
  obtain ⟨k1, _⟩ := toNu_ok g3 4 g2 (by rw [g4]; rfl)
  rw [g4, rv_bool] at k1
  exact ⟨by rw [g1, k1], g3.bel⟩
theorem kt : ∀ m : Bool, m = true → AV.bool m = AV.bool true := by rintro _ rfl; rfl
theorem tr_rise {F : Ft} (h : FtOk F) (y : Int) : (tr F true y).t < (tr F false y).t ∧ (tr F false y).t < (tr F true (y + 1)).t := by
  have a := (sI_step h (2 * y)).1
  have b := (sI_step h (2 * y + 1)).1
  rw [sI_even, sI_odd] at a
  rw [show 2 * y + 1 + 1 = 2 * (y + 1) by omega, sI_even, sI_odd] at b
  exact ⟨a, b⟩
theorem yrT_ok : TabOk Try.prog (tab [(19, cyCan), (20, cyShift), (13, cyKnown), (10, cyGiven)]) := tab_cons cyCan_ok (tab_cons cyShift_ok (tab_cons cyKnown_ok (tab_cons cyGiven_ok tab_nil)))
set_option maxRecDepth 100000 in
theorem lOrder_vc (F : Ft) (y : Int) (K : AV → Prop) : AF (tab [(19, cyCan), (20, cyShift), (13, cyKnown), (10, cyGiven)]) 12 7 [.agg (avF F), .int .i64 y] K =
    (gvQ F (fun G0 => brc (decide (-9223372036854775808 ≤ Hf.m (Ft.a G0) ∧ Hf.m (Ft.a G0) ≤ 9223372036854775807 ∧ -9223372036854775808 ≤ Hf.m (Ft.b G0) ∧ Hf.m (Ft.b G0) ≤ 9223372036854775807)) (∀ (m17 : Bool), m17 = decide (FtOk G0) → brc (!m17) (∀ (m18 : Bool), m18 = true → K (AV.bool m18)) (brc (decide (y ≤ -4718)) (∀ (m18 : Bool), m18 = true → K (AV.bool m18)) (brc (decide (y ≥ 294282)) (∀ (m18 : Bool), m18 = true → K (AV.bool m18)) (brc (decide (FtOk G0 ∧ -4718 < y ∧ y < 294282)) (∀ (m18 : Int), m18 = Tr.t (tr G0 true y) → ∀ (m19 : Int), m19 = Tr.off (tr G0 true y) → ∀ (m20 : Bool), m20 = Tr.dst (tr G0 true y) → brc (decide (FtOk G0 ∧ -4718 < y ∧ y < 294282)) (∀ (m21 : Int), m21 = Tr.t (tr G0 false y) → ∀ (m22 : Int), m22 = Tr.off (tr G0 false y) → ∀ (m23 : Bool), m23 = Tr.dst (tr G0 false y) → brc (decide (y ≥ 294281)) (∀ (m24 : Bool), m24 = true → K (AV.bool m24)) (gvQ F (fun G1 => brc (decide (-9223372036854775808 ≤ Hf.m (Ft.a G1) ∧ Hf.m (Ft.a G1) ≤ 9223372036854775807 ∧ -9223372036854775808 ≤ Hf.m (Ft.b G1) ∧ Hf.m (Ft.b G1) ≤ 9223372036854775807)) (∀ (m41 : Bool), m41 = decide (FtOk G1) → brc (!m41) (K (AV.bool false)) (brc (decide (IntKind.wrap IntKind.i64 (y + 1) ≤ -4718)) (K (AV.bool false)) (brc (decide (IntKind.wrap IntKind.i64 (y + 1) ≥ 294282)) (K (AV.bool false)) (brc (decide (FtOk G1 ∧ -4718 < IntKind.wrap IntKind.i64 (y + 1) ∧ IntKind.wrap IntKind.i64 (y + 1) < 294282)) (∀ (m42 : Int), m42 = Tr.t (tr G1 true (IntKind.wrap IntKind.i64 (y + 1))) → ∀ (m43 : Int), m43 = Tr.off (tr G1 true (IntKind.wrap IntKind.i64 (y + 1))) → ∀ (m44 : Bool), m44 = Tr.dst (tr G1 true (IntKind.wrap IntKind.i64 (y + 1))) → brc (decide (FtOk G1 ∧ -4718 < IntKind.wrap IntKind.i64 (y + 1) ∧ IntKind.wrap IntKind.i64 (y + 1) < 294282)) (∀ (m45 : Int), m45 = Tr.t (tr G1 false (IntKind.wrap IntKind.i64 (y + 1))) → ∀ (m46 : Int), m46 = Tr.off (tr G1 false (IntKind.wrap IntKind.i64 (y + 1))) → ∀ (m47 : Bool), m47 = Tr.dst (tr G1 false (IntKind.wrap IntKind.i64 (y + 1))) → brc (decide (m18 < m21)) (brc (decide (m21 < m42)) (∀ (m48 : Bool), m48 = true → K (AV.bool m48)) (K (AV.bool false))) (K (AV.bool false))) False) False)))) False))) False) False)))) False)) := by kernel_rfl
theorem lOrder_ok {F : Ft} {y : Int} (hF : bdF F = true) : AF (tab [(19, cyCan), (20, cyShift), (13, cyKnown), (10, cyGiven)]) 12 7 [.agg (avF F), .int .i64 y] fun u => u = .bool true := by
  rw [lOrder_vc]
  refine gvQ_ok (brcT hF ?_)
  rintro _ rfl
  by_cases h : FtOk F
  case neg => exact brcT (by simp [h]) kt
  refine brcF (by simp [h]) (brc_intro (fun _ => kt) fun h1 => brc_intro (fun _ => kt) fun h2 => ?_)
  have h1 := of_decide_eq_false h1
  have h2 := of_decide_eq_false h2
  refine brcT (decide_eq_true ⟨h, by omega, by omega⟩) ?_
  rintro _ rfl _ rfl _ rfl
  refine brcT (decide_eq_true ⟨h, by omega, by omega⟩) ?_
  rintro _ rfl _ rfl _ rfl
  refine brc_intro (fun _ => kt) fun h3 => gvQ_ok (brcT hF ?_)
  have h3 := of_decide_eq_false h3
  rintro _ rfl
  rw [wv (x := y + 1) (by omega) (by omega)]
  refine brcF (by simp [h]) (brcF (decide_eq_false (by omega)) (brcF (decide_eq_false (by omega)) (brcT (decide_eq_true ⟨h, by omega, by omega⟩) ?_)))
  rintro _ rfl _ rfl _ rfl
  refine brcT (decide_eq_true ⟨h, by omega, by omega⟩) ?_
  rintro _ rfl _ rfl _ rfl
  have r := tr_rise h y
  exact brcT (decide_eq_true r.1) (brcT (decide_eq_true r.2) kt)
theorem bd_ok {F : Ft} (h : (Lit.int .i64 F.a.m).wf = true) (k : (Lit.int .i64 F.b.m).wf = true) : bdF F = true := decide_eq_true ⟨(i64_of_wf h).1, (i64_of_wf h).2, (i64_of_wf k).1, (i64_of_wf k).2⟩
end
end Go.Proofs.Ytlpnbbonbclddaa.P
