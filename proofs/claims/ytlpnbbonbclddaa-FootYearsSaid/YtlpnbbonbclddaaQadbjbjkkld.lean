/- The laws of layer 11: what each answers, walked and shown true. -/
import Derived.Test.YtlpnbbonbclddaaQolpipgoloe
import Derived.Test.YtlpnbbonbclddaaQfjncfhgdhj
import Derived.Test.YtlpnbbonbclddaaQhhomajlbfp
import Derived.Test.YtlpnbbonbclddaaQncocjfpffk
namespace Go.Proofs.Ytlpnbbonbclddaa.P
open Go Go.RowKit Go.Proofs.Ytlpnbbonbclddaa.Civ Go.Proofs.Ytlpnbbonbclddaa.Ft
set_option linter.unusedVariables false
set_option linter.unusedSimpArgs false
section
open A
set_option maxRecDepth 100000 in
theorem half_vc (h : Hf) (K : AV → Prop) : AF (tab []) 6 21 [.agg (avH h)] K =
    (K (AV.agg [AV.int IntKind.i64 (Hf.m h), AV.int IntKind.i64 (Hf.k h), AV.int IntKind.i64 (Hf.w h), AV.int IntKind.i64 (Hf.n h), AV.int IntKind.i64 (Hf.s h), AV.int IntKind.u8 (Hf.c h), AV.int IntKind.i64 (Hf.v h), AV.str (Hf.ab h)])) := by kernel_rfl
theorem cyHalf_ok : COk Try.prog 21 cyHalf := af_con tab_nil (by kernel_rfl) fun args p v hc hp => by
  unfold cyHalf at hc
  split at hc
  case h_2 => cases hc
  split at hc
  case h_2 => cases hc
  rename_i h hl
  simp only [Option.some.injEq, Prod.mk.injEq] at hc
  obtain ⟨_, rfl⟩ := hc
  rw [rdH_ok hl]
  refine ⟨rfl, 6, ?_⟩
  rw [half_vc]
  rfl
set_option maxRecDepth 100000 in
theorem given_vc (F : Ft) (K : AV → Prop) : AF (tab [(21, cyHalf)]) 6 10 [.agg (avF F)] K =
    (∀ (m0 : Int), m0 = Hf.m (Ft.a F) → ∀ (m1 : Int), m1 = Hf.k (Ft.a F) → ∀ (m2 : Int), m2 = Hf.w (Ft.a F) → ∀ (m3 : Int), m3 = Hf.n (Ft.a F) → ∀ (m4 : Int), m4 = Hf.s (Ft.a F) → ∀ (m5 : Int), m5 = Hf.c (Ft.a F) → ∀ (m6 : Int), m6 = Hf.v (Ft.a F) → ∀ (m7 : Int), m7 = Hf.m (Ft.b F) → ∀ (m8 : Int), m8 = Hf.k (Ft.b F) → ∀ (m9 : Int), m9 = Hf.w (Ft.b F) → ∀ (m10 : Int), m10 = Hf.n (Ft.b F) → ∀ (m11 : Int), m11 = Hf.s (Ft.b F) → ∀ (m12 : Int), m12 = Hf.c (Ft.b F) → ∀ (m13 : Int), m13 = Hf.v (Ft.b F) → K (AV.agg [AV.bool (Ft.z F), AV.int IntKind.i64 (Ft.fr F), AV.int IntKind.i64 (Ft.off F), AV.int IntKind.i64 m0, AV.int IntKind.i64 m1, AV.int IntKind.i64 m2, AV.int IntKind.i64 m3, AV.int IntKind.i64 m4, AV.int IntKind.u8 m5, AV.int IntKind.i64 m6, AV.str (Hf.ab (Ft.a F)), AV.int IntKind.i64 m7, AV.int IntKind.i64 m8, AV.int IntKind.i64 m9, AV.int IntKind.i64 m10, AV.int IntKind.i64 m11, AV.int IntKind.u8 m12, AV.int IntKind.i64 m13, AV.str (Hf.ab (Ft.b F))])) := by kernel_rfl
theorem cyGiven_ok : COk Try.prog 10 cyGiven := af_con (tab_cons cyHalf_ok tab_nil) (by kernel_rfl) fun args p v hc hp => by
  unfold cyGiven at hc
  split at hc
  case h_2 => cases hc
  split at hc
  case h_2 => cases hc
  rename_i F hl
  simp only [Option.some.injEq, Prod.mk.injEq] at hc
  obtain ⟨_, rfl⟩ := hc
  rw [rdF_ok hl]
  refine ⟨rfl, 6, ?_⟩
  rw [given_vc]
  rintro _ rfl _ rfl _ rfl _ rfl _ rfl _ rfl _ rfl _ rfl _ rfl _ rfl _ rfl _ rfl _ rfl _ rfl
  rfl
/-- A copied foot, its numbers under names. -/
def gvQ (F : Ft) (C : Ft → Prop) : Prop := ∀ z : Bool, z = F.z → ∀ fr : Int, fr = F.fr → ∀ off : Int, off = F.off → ∀ m1 : Int, m1 = F.a.m → ∀ k1 : Int, k1 = F.a.k → ∀ w1 : Int, w1 = F.a.w → ∀ n1 : Int, n1 = F.a.n → ∀ s1 : Int, s1 = F.a.s → ∀ c1 : Int, c1 = F.a.c → ∀ v1 : Int, v1 = F.a.v →
  ∀ m2 : Int, m2 = F.b.m → ∀ k2 : Int, k2 = F.b.k → ∀ w2 : Int, w2 = F.b.w → ∀ n2 : Int, n2 = F.b.n → ∀ s2 : Int, s2 = F.b.s → ∀ c2 : Int, c2 = F.b.c → ∀ v2 : Int, v2 = F.b.v → C ⟨z, fr, off, ⟨m1, k1, w1, n1, s1, c1, v1, F.a.ab⟩, ⟨m2, k2, w2, n2, s2, c2, v2, F.b.ab⟩⟩
theorem gvQ_ok {F : Ft} {C : Ft → Prop} (h : C F) : gvQ F C := by
  rintro _ rfl _ rfl _ rfl _ rfl _ rfl _ rfl _ rfl _ rfl _ rfl _ rfl _ rfl _ rfl _ rfl _ rfl _ rfl _ rfl _ rfl
  exact h
theorem af_calls {T : Tab} (hT : TabOk Try.prog T) {n g : Nat} {args : List AV} (h : AF T n g args fun u => u = .bool true) {w : World} {A : List Value} (hA : RL noNames w args A) : Calls Try.prog g A.toArray w fun e w' => e = .returned (.bool true) ∧ Below w.heap.size w w' := by
  unfold AF at h
  refine (afn_ok mixed hT (ltOk_none Try.prog g) h hA).mono fun e w' he => ?_
  obtain ⟨V, g1, ρ', u, h', g2, g3, g4⟩ := he
  obtain ⟨k1, _⟩ := toNu_ok g3 4 g2 (by rw [g4]; rfl)
  rw [g4, rv_bool] at k1
  exact ⟨by rw [g1, k1], g3.bel⟩
theorem kt : ∀ m : Bool, m = true → AV.bool m = AV.bool true := by rintro _ rfl; rfl
theorem ysT_ok : TabOk Try.prog (tab [(19, cyCan), (20, cyShift), (13, cyKnown), (10, cyGiven), (22, cyCan), (23, cyRshift)]) := tab_cons cyCan_ok (tab_cons cyShift_ok (tab_cons cyKnown_ok (tab_cons cyGiven_ok (tab_cons cyCanR_ok (tab_cons cyRshift_ok tab_nil)))))
set_option maxRecDepth 100000 in
theorem lYears_vc (F : Ft) (y : Int) (K : AV → Prop) : AF (tab [(19, cyCan), (20, cyShift), (13, cyKnown), (10, cyGiven), (22, cyCan), (23, cyRshift)]) 12 3 [.agg (avF F), .int .i64 y] K =
    (gvQ F (fun G0 => brc (decide (-9223372036854775808 ≤ Hf.m (Ft.a G0) ∧ Hf.m (Ft.a G0) ≤ 9223372036854775807 ∧ -9223372036854775808 ≤ Hf.m (Ft.b G0) ∧ Hf.m (Ft.b G0) ≤ 9223372036854775807)) (∀ (m17 : Bool), m17 = decide (FtOk G0) → brc (!m17) (brc (decide (-9223372036854775808 ≤ Hf.m (Ft.a F) ∧ Hf.m (Ft.a F) ≤ 9223372036854775807 ∧ -9223372036854775808 ≤ Hf.m (Ft.b F) ∧ Hf.m (Ft.b F) ≤ 9223372036854775807)) (∀ (m18 : Bool), m18 = decide (FtOk F) → brc (!m18) (∀ (m19 : Bool), m19 = true → K (AV.bool m19)) (brc (decide (y ≤ -4718)) (K (AV.bool false)) (brc (decide (y ≥ 294282)) (K (AV.bool false)) (brc (decide (HfOk (Ft.a F) ∧ HfOk (Ft.b F) ∧ -50400 ≤ Ft.off F ∧ Ft.off F ≤ 50400 ∧ -4718 < y ∧ y < 294282)) (∀ (m19 : Int), m19 = Tr.t (tran (Ft.a F) (Ft.b F) (Ft.off F) y) → ∀ (m20 : Int), m20 = Tr.off (tran (Ft.a F) (Ft.b F) (Ft.off F) y) → ∀ (m21 : Bool), m21 = Tr.dst (tran (Ft.a F) (Ft.b F) (Ft.off F) y) → brc (decide (HfOk (Ft.b F) ∧ HfOk (Ft.a F) ∧ -50400 ≤ Ft.off F ∧ Ft.off F ≤ 50400 ∧ -4718 < y ∧ y < 294282)) (∀ (m22 : Int), m22 = Tr.t (tran (Ft.b F) (Ft.a F) (Ft.off F) y) → ∀ (m23 : Int), m23 = Tr.off (tran (Ft.b F) (Ft.a F) (Ft.off F) y) → ∀ (m24 : Bool), m24 = Tr.dst (tran (Ft.b F) (Ft.a F) (Ft.off F) y) → brc (decide (Hf.m (Ft.a F) < Hf.m (Ft.b F))) (K (AV.bool false)) (K (AV.bool false))) False) False)))) False) (brc (decide (y ≤ -4718)) (brc (decide (-9223372036854775808 ≤ Hf.m (Ft.a F) ∧ Hf.m (Ft.a F) ≤ 9223372036854775807 ∧ -9223372036854775808 ≤ Hf.m (Ft.b F) ∧ Hf.m (Ft.b F) ≤ 9223372036854775807)) (∀ (m18 : Bool), m18 = decide (FtOk F) → brc (!m18) (K (AV.bool false)) (brc (decide (y ≤ -4718)) (∀ (m19 : Bool), m19 = true → K (AV.bool m19)) (brc (decide (y ≥ 294282)) (∀ (m19 : Bool), m19 = true → K (AV.bool m19)) (brc (decide (HfOk (Ft.a F) ∧ HfOk (Ft.b F) ∧ -50400 ≤ Ft.off F ∧ Ft.off F ≤ 50400 ∧ -4718 < y ∧ y < 294282)) (∀ (m19 : Int), m19 = Tr.t (tran (Ft.a F) (Ft.b F) (Ft.off F) y) → ∀ (m20 : Int), m20 = Tr.off (tran (Ft.a F) (Ft.b F) (Ft.off F) y) → ∀ (m21 : Bool), m21 = Tr.dst (tran (Ft.a F) (Ft.b F) (Ft.off F) y) → brc (decide (HfOk (Ft.b F) ∧ HfOk (Ft.a F) ∧ -50400 ≤ Ft.off F ∧ Ft.off F ≤ 50400 ∧ -4718 < y ∧ y < 294282)) (∀ (m22 : Int), m22 = Tr.t (tran (Ft.b F) (Ft.a F) (Ft.off F) y) → ∀ (m23 : Int), m23 = Tr.off (tran (Ft.b F) (Ft.a F) (Ft.off F) y) → ∀ (m24 : Bool), m24 = Tr.dst (tran (Ft.b F) (Ft.a F) (Ft.off F) y) → brc (decide (Hf.m (Ft.a F) < Hf.m (Ft.b F))) (K (AV.bool false)) (K (AV.bool false))) False) False)))) False) (brc (decide (y ≥ 294282)) (brc (decide (-9223372036854775808 ≤ Hf.m (Ft.a F) ∧ Hf.m (Ft.a F) ≤ 9223372036854775807 ∧ -9223372036854775808 ≤ Hf.m (Ft.b F) ∧ Hf.m (Ft.b F) ≤ 9223372036854775807)) (∀ (m18 : Bool), m18 = decide (FtOk F) → brc (!m18) (K (AV.bool false)) (brc (decide (y ≤ -4718)) (∀ (m19 : Bool), m19 = true → K (AV.bool m19)) (brc (decide (y ≥ 294282)) (∀ (m19 : Bool), m19 = true → K (AV.bool m19)) (brc (decide (HfOk (Ft.a F) ∧ HfOk (Ft.b F) ∧ -50400 ≤ Ft.off F ∧ Ft.off F ≤ 50400 ∧ -4718 < y ∧ y < 294282)) (∀ (m19 : Int), m19 = Tr.t (tran (Ft.a F) (Ft.b F) (Ft.off F) y) → ∀ (m20 : Int), m20 = Tr.off (tran (Ft.a F) (Ft.b F) (Ft.off F) y) → ∀ (m21 : Bool), m21 = Tr.dst (tran (Ft.a F) (Ft.b F) (Ft.off F) y) → brc (decide (HfOk (Ft.b F) ∧ HfOk (Ft.a F) ∧ -50400 ≤ Ft.off F ∧ Ft.off F ≤ 50400 ∧ -4718 < y ∧ y < 294282)) (∀ (m22 : Int), m22 = Tr.t (tran (Ft.b F) (Ft.a F) (Ft.off F) y) → ∀ (m23 : Int), m23 = Tr.off (tran (Ft.b F) (Ft.a F) (Ft.off F) y) → ∀ (m24 : Bool), m24 = Tr.dst (tran (Ft.b F) (Ft.a F) (Ft.off F) y) → brc (decide (Hf.m (Ft.a F) < Hf.m (Ft.b F))) (K (AV.bool false)) (K (AV.bool false))) False) False)))) False) (brc (decide (FtOk G0 ∧ -4718 < y ∧ y < 294282)) (∀ (m18 : Int), m18 = Tr.t (tr G0 true y) → ∀ (m19 : Int), m19 = Tr.off (tr G0 true y) → ∀ (m20 : Bool), m20 = Tr.dst (tr G0 true y) → brc (decide (FtOk G0 ∧ -4718 < y ∧ y < 294282)) (∀ (m21 : Int), m21 = Tr.t (tr G0 false y) → ∀ (m22 : Int), m22 = Tr.off (tr G0 false y) → ∀ (m23 : Bool), m23 = Tr.dst (tr G0 false y) → brc (decide (-9223372036854775808 ≤ Hf.m (Ft.a F) ∧ Hf.m (Ft.a F) ≤ 9223372036854775807 ∧ -9223372036854775808 ≤ Hf.m (Ft.b F) ∧ Hf.m (Ft.b F) ≤ 9223372036854775807)) (∀ (m24 : Bool), m24 = decide (FtOk F) → brc (!m24) (K (AV.bool false)) (brc (decide (y ≤ -4718)) (K (AV.bool false)) (brc (decide (y ≥ 294282)) (K (AV.bool false)) (brc (decide (HfOk (Ft.a F) ∧ HfOk (Ft.b F) ∧ -50400 ≤ Ft.off F ∧ Ft.off F ≤ 50400 ∧ -4718 < y ∧ y < 294282)) (∀ (m25 : Int), m25 = Tr.t (tran (Ft.a F) (Ft.b F) (Ft.off F) y) → ∀ (m26 : Int), m26 = Tr.off (tran (Ft.a F) (Ft.b F) (Ft.off F) y) → ∀ (m27 : Bool), m27 = Tr.dst (tran (Ft.a F) (Ft.b F) (Ft.off F) y) → brc (decide (HfOk (Ft.b F) ∧ HfOk (Ft.a F) ∧ -50400 ≤ Ft.off F ∧ Ft.off F ≤ 50400 ∧ -4718 < y ∧ y < 294282)) (∀ (m28 : Int), m28 = Tr.t (tran (Ft.b F) (Ft.a F) (Ft.off F) y) → ∀ (m29 : Int), m29 = Tr.off (tran (Ft.b F) (Ft.a F) (Ft.off F) y) → ∀ (m30 : Bool), m30 = Tr.dst (tran (Ft.b F) (Ft.a F) (Ft.off F) y) → brc (decide (Hf.m (Ft.a F) < Hf.m (Ft.b F))) (brc (!(m18 == m25 && (m19 == m26 && (m20 == m27 && (ByteArray.toList (Tr.ab (tr G0 true y)) == ByteArray.toList (Tr.ab (tran (Ft.a F) (Ft.b F) (Ft.off F) y)) && true))))) (K (AV.bool false)) (brc (!(m21 == m28 && (m22 == m29 && (m23 == m30 && (ByteArray.toList (Tr.ab (tr G0 false y)) == ByteArray.toList (Tr.ab (tran (Ft.b F) (Ft.a F) (Ft.off F) y)) && true))))) (K (AV.bool false)) (∀ (m31 : Bool), m31 = true → K (AV.bool m31)))) (brc (!(m18 == m28 && (m19 == m29 && (m20 == m30 && (ByteArray.toList (Tr.ab (tr G0 true y)) == ByteArray.toList (Tr.ab (tran (Ft.b F) (Ft.a F) (Ft.off F) y)) && true))))) (K (AV.bool false)) (brc (!(m21 == m25 && (m22 == m26 && (m23 == m27 && (ByteArray.toList (Tr.ab (tr G0 false y)) == ByteArray.toList (Tr.ab (tran (Ft.a F) (Ft.b F) (Ft.off F) y)) && true))))) (K (AV.bool false)) (∀ (m31 : Bool), m31 = true → K (AV.bool m31))))) False) False)))) False) False) False)))) False)) := by kernel_rfl
theorem lYears_ok {F : Ft} {y : Int} (hF : bdF F = true) : AF (tab [(19, cyCan), (20, cyShift), (13, cyKnown), (10, cyGiven), (22, cyCan), (23, cyRshift)]) 12 3 [.agg (avF F), .int .i64 y] fun u => u = .bool true := by
  rw [lYears_vc]
  refine gvQ_ok (brcT hF ?_)
  rintro _ rfl
  by_cases h : FtOk F
  case neg =>
    refine brcT (by simp [h]) (brcT hF ?_)
    rintro _ rfl
    exact brcT (by simp [h]) kt
  refine brcF (by simp [h]) (brc_intro (fun h1 => brcT hF ?_) fun h1 => brc_intro (fun h2 => brcT hF ?_) fun h2 => ?_)
  · rintro _ rfl
    exact brcF (by simp [h]) (brcT h1 kt)
  · rintro _ rfl
    exact brcF (by simp [h]) (brcF h1 (brcT h2 kt))
  have g1 := of_decide_eq_false h1
  have g2 := of_decide_eq_false h2
  refine brcT (decide_eq_true ⟨h, by omega, by omega⟩) ?_
  rintro _ rfl _ rfl _ rfl
  refine brcT (decide_eq_true ⟨h, by omega, by omega⟩) ?_
  rintro _ rfl _ rfl _ rfl
  refine brcT hF ?_
  rintro _ rfl
  refine brcF (by simp [h]) (brcF h1 (brcF h2 (brcT (decide_eq_true ⟨h.2.1, h.2.2.1, h.2.2.2.1, h.2.2.2.2.1, by omega, by omega⟩) ?_)))
  rintro _ rfl _ rfl _ rfl
  refine brcT (decide_eq_true ⟨h.2.2.1, h.2.1, h.2.2.2.1, h.2.2.2.2.1, by omega, by omega⟩) ?_
  rintro _ rfl _ rfl _ rfl
  refine brc_intro (fun hm => ?_) fun hm => ?_
  · have hm := of_decide_eq_true hm
    have e1 : tr F true y = tran F.a F.b F.off y := by simp [tr, fstH, sndH, hm]
    have e2 : tr F false y = tran F.b F.a F.off y := by simp [tr, fstH, sndH, hm]
    rw [e1, e2]
    exact brcF (by simp) (brcF (by simp) kt)
  · have hm := of_decide_eq_false hm
    have e1 : tr F true y = tran F.b F.a F.off y := by simp [tr, fstH, sndH, hm]
    have e2 : tr F false y = tran F.a F.b F.off y := by simp [tr, fstH, sndH, hm]
    rw [e1, e2]
    exact brcF (by simp) (brcF (by simp) kt)
theorem bd_ok {F : Ft} (h : (Lit.int .i64 F.a.m).wf = true) (k : (Lit.int .i64 F.b.m).wf = true) : bdF F = true := decide_eq_true ⟨(i64_of_wf h).1, (i64_of_wf h).2, (i64_of_wf k).1, (i64_of_wf k).2⟩
end
end Go.Proofs.Ytlpnbbonbclddaa.P
