/- The laws of layer 11: what each answers, walked and shown true. -/
import Derived.Test.YtlpnbbonbclddaaQhcgbkmacnl
import Derived.Test.YtlpnbbonbclddaaQpcgbepcema
import Derived.Test.YtlpnbbonbclddaaQdkpmohncaj
import Derived.Test.YtlpnbbonbclddaaQncocjfpffk
namespace Go.Proofs.Ytlpnbbonbclddaa.P
open Go Go.RowKit Go.Proofs.Ytlpnbbonbclddaa.Civ Go.Proofs.Ytlpnbbonbclddaa.Ft
set_option linter.unusedVariables false
set_option linter.unusedSimpArgs false
section
open A
set_option maxRecDepth 100000 in
theorem half_vc (h : Hf) (K : AV → Prop) : AF (tab []) 6 21 [.agg (avH h)] K =
    (K (AV.agg [AV.int IntKind.i64 (Hf.m h), AV.int IntKind.i64 (Hf.k h), AV.int IntKind.i64 (Hf.w h), AV.int IntKind.i64 (Hf.n h), AV.int IntKind.i64 (Hf.s h), AV.int IntKind.u8 (Hf.c h), AV.int IntKind.i64 (Hf.v h), AV.str (Hf.ab h)])) := by kernel_rfl
theorem cyHalf_ok : COk Try.prog 21 cyHalf := af_con tab_nil (by kernel_rfl) fun args p v hc hp => by
  unfold cyHalf at hc
  split at hc
  case h_2 => cases hc
  split at hc
  case h_2 => cases hc
  rename_i h hl
  simp only [Option.some.injEq, Prod.mk.injEq] at hc
  obtain ⟨_, rfl⟩ := hc
  rw [rdH_ok hl]
  refine ⟨rfl, 6, ?_⟩
  rw [half_vc]
  rfl
set_option maxRecDepth 100000 in
theorem given_vc (F : Ft) (K : AV → Prop) : AF (tab [(21, cyHalf)]) 6 10 [.agg (avF F)] K =
    (∀ (m0 : Int), m0 = Hf.m (Ft.a F) → ∀ (m1 : Int), m1 = Hf.k (Ft.a F) → ∀ (m2 : Int), m2 = Hf.w (Ft.a F) → ∀ (m3 : Int), m3 = Hf.n (Ft.a F) → ∀ (m4 : Int), m4 = Hf.s (Ft.a F) → ∀ (m5 : Int), m5 = Hf.c (Ft.a F) → ∀ (m6 : Int), m6 = Hf.v (Ft.a F) → ∀ (m7 : Int), m7 = Hf.m (Ft.b F) → ∀ (m8 : Int), m8 = Hf.k (Ft.b F) → ∀ (m9 : Int), m9 = Hf.w (Ft.b F) → ∀ (m10 : Int), m10 = Hf.n (Ft.b F) → ∀ (m11 : Int), m11 = Hf.s (Ft.b F) → ∀ (m12 : Int), m12 = Hf.c (Ft.b F) → ∀ (m13 : Int), m13 = Hf.v (Ft.b F) → K (AV.agg [AV.bool (Ft.z F), AV.int IntKind.i64 (Ft.fr F), AV.int IntKind.i64 (Ft.off F), AV.int IntKind.i64 m0, AV.int IntKind.i64 m1, AV.int IntKind.i64 m2, AV.int IntKind.i64 m3, AV.int IntKind.i64 m4, AV.int IntKind.u8 m5, AV.int IntKind.i64 m6, AV.str (Hf.ab (Ft.a F)), AV.int IntKind.i64 m7, AV.int IntKind.i64 m8, AV.int IntKind.i64 m9, AV.int IntKind.i64 m10, AV.int IntKind.i64 m11, AV.int IntKind.u8 m12, AV.int IntKind.i64 m13, AV.str (Hf.ab (Ft.b F))])) := by kernel_rfl
theorem cyGiven_ok : COk Try.prog 10 cyGiven := af_con (tab_cons cyHalf_ok tab_nil) (by kernel_rfl) fun args p v hc hp => by
  unfold cyGiven at hc
  split at hc
  case h_2 => cases hc
  split at hc
  case h_2 => cases hc
  rename_i F hl
  simp only [Option.some.injEq, Prod.mk.injEq] at hc
  obtain ⟨_, rfl⟩ := hc
  rw [rdF_ok hl]
  refine ⟨rfl, 6, ?_⟩
  rw [given_vc]
  rintro _ rfl _ rfl _ rfl _ rfl _ rfl _ rfl _ rfl _ rfl _ rfl _ rfl _ rfl _ rfl _ rfl _ rfl
  rfl
/-- A copied foot, its numbers under names. -/
def gvQ (F : Ft) (C : Ft → Prop) : Prop := ∀ z : Bool, z = F.z → ∀ fr : Int, fr = F.fr → ∀ off : Int, off = F.off → ∀ m1 : Int, m1 = F.a.m → ∀ k1 : Int, k1 = F.a.k → ∀ w1 : Int, w1 = F.a.w → ∀ n1 : Int, n1 = F.a.n → ∀ s1 : Int, s1 = F.a.s → ∀ c1 : Int, c1 = F.a.c → ∀ v1 : Int, v1 = F.a.v →
  ∀ m2 : Int, m2 = F.b.m → ∀ k2 : Int, k2 = F.b.k → ∀ w2 : Int, w2 = F.b.w → ∀ n2 : Int, n2 = F.b.n → ∀ s2 : Int, s2 = F.b.s → ∀ c2 : Int, c2 = F.b.c → ∀ v2 : Int, v2 = F.b.v → C ⟨z, fr, off, ⟨m1, k1, w1, n1, s1, c1, v1, F.a.ab⟩, ⟨m2, k2, w2, n2, s2, c2, v2, F.b.ab⟩⟩
theorem gvQ_ok {F : Ft} {C : Ft → Prop} (h : C F) : gvQ F C := by
  rintro _ rfl _ rfl _ rfl _ rfl _ rfl _ rfl _ rfl _ rfl _ rfl _ rfl _ rfl _ rfl _ rfl _ rfl _ rfl _ rfl _ rfl
  exact h
theorem af_calls {T : Tab} (hT : TabOk Try.prog T) {n g : Nat} {args : List AV} (h : AF T n g args fun u => u = .bool true) {w : World} {A : List Value} (hA : RL noNames w args A) : Calls Try.prog g A.toArray w fun e w' => e = .returned (.bool true) ∧ Below w.heap.size w w' := by
  unfold AF at h
  refine (afn_ok mixed hT (ltOk_none Try.prog g) h hA).mono fun e w' he => ?_
  obtain ⟨V, g1, ρ', u, h', g2, g3, g4⟩ := he
  obtain ⟨k1, _⟩ := toNu_ok g3 4 g2 (by rw [g4]; rfl)
  rw [g4, rv_bool] at k1
  exact ⟨by rw [g1, k1], g3.bel⟩
theorem stT_ok : TabOk Try.prog (tab [(14, cyStand 0), (15, cyStand 0), (16, cyStand 1), (17, cyStand 1), (13, cyKnown), (10, cyGiven)]) := tab_cons cyAtF_ok (tab_cons cyAtR_ok (tab_cons cyNextF_ok (tab_cons cyNextR_ok (tab_cons cyKnown_ok (tab_cons cyGiven_ok tab_nil)))))
theorem dec3 {F : Ft} {u : Int} (hu : bdU u = true) (hF : bdF F = true) : decide (-9223372036854775808 ≤ u ∧ u ≤ 9223372036854775807 ∧ -9223372036854775808 ≤ F.a.m ∧ F.a.m ≤ 9223372036854775807 ∧ -9223372036854775808 ≤ F.b.m ∧ F.b.m ≤ 9223372036854775807) = true := by
  have h1 := of_decide_eq_true hu
  have h2 := of_decide_eq_true hF
  exact decide_eq_true ⟨h1.1, h1.2, h2⟩
set_option maxRecDepth 100000 in
theorem lSave_vc (F : Ft) (u : Int) (K : AV → Prop) : AF (tab [(14, cyStand 0), (15, cyStand 0), (16, cyStand 1), (17, cyStand 1), (13, cyKnown), (10, cyGiven)]) 6 8 [.agg (avF F), .int .i64 u] K =
    (gvQ F (fun G0 => brc (decide (-9223372036854775808 ≤ u ∧ u ≤ 9223372036854775807 ∧ -9223372036854775808 ≤ Hf.m (Ft.a G0) ∧ Hf.m (Ft.a G0) ≤ 9223372036854775807 ∧ -9223372036854775808 ≤ Hf.m (Ft.b G0) ∧ Hf.m (Ft.b G0) ≤ 9223372036854775807)) (∀ (m17 : Int), m17 = Tr.t (tZ G0 u (ix G0 u + 0)) → ∀ (m18 : Int), m18 = Tr.off (tZ G0 u (ix G0 u + 0)) → ∀ (m19 : Bool), m19 = Tr.dst (tZ G0 u (ix G0 u + 0)) → ∀ (m20 : Int), m20 = err2 G0 u → brc (m20 != 0) (∀ (m21 : Bool), m21 = true → K (AV.bool m21)) (brc (m18 == IntKind.wrap IntKind.i64 (Ft.off F + Hf.v (Ft.a F))) (brc (ByteArray.toList (Tr.ab (tZ G0 u (ix G0 u + 0))) == ByteArray.toList (Hf.ab (Ft.a F))) (brc (m18 == IntKind.wrap IntKind.i64 (Ft.off F + Hf.v (Ft.b F))) (brc (ByteArray.toList (Tr.ab (tZ G0 u (ix G0 u + 0))) == ByteArray.toList (Hf.ab (Ft.b F))) (brc (m19 == (Hf.v (Ft.a F) != 0)) (∀ (m21 : Bool), m21 = true → K (AV.bool m21)) (brc (m19 == (Hf.v (Ft.b F) != 0)) (∀ (m21 : Bool), m21 = true → K (AV.bool m21)) (K (AV.bool false)))) (brc (m19 == (Hf.v (Ft.a F) != 0)) (∀ (m21 : Bool), m21 = true → K (AV.bool m21)) (K (AV.bool false)))) (brc (m19 == (Hf.v (Ft.a F) != 0)) (∀ (m21 : Bool), m21 = true → K (AV.bool m21)) (K (AV.bool false)))) (brc (m18 == IntKind.wrap IntKind.i64 (Ft.off F + Hf.v (Ft.b F))) (brc (ByteArray.toList (Tr.ab (tZ G0 u (ix G0 u + 0))) == ByteArray.toList (Hf.ab (Ft.b F))) (brc (m19 == (Hf.v (Ft.b F) != 0)) (∀ (m21 : Bool), m21 = true → K (AV.bool m21)) (K (AV.bool false))) (K (AV.bool false))) (K (AV.bool false)))) (brc (m18 == IntKind.wrap IntKind.i64 (Ft.off F + Hf.v (Ft.b F))) (brc (ByteArray.toList (Tr.ab (tZ G0 u (ix G0 u + 0))) == ByteArray.toList (Hf.ab (Ft.b F))) (brc (m19 == (Hf.v (Ft.b F) != 0)) (∀ (m21 : Bool), m21 = true → K (AV.bool m21)) (K (AV.bool false))) (K (AV.bool false))) (K (AV.bool false))))) False)) := by kernel_rfl
theorem sI_half (F : Ft) (i : Int) : ((sI F i).off = F.off + F.a.v ∧ (sI F i).ab = F.a.ab ∧ (sI F i).dst = decide (F.a.v ≠ 0)) ∨ ((sI F i).off = F.off + F.b.v ∧ (sI F i).ab = F.b.ab ∧ (sI F i).dst = decide (F.b.v ≠ 0)) := by
  unfold sI tr fstH sndH tran
  by_cases h1 : i % 2 = 0 <;> by_cases h2 : F.a.m < F.b.m <;> simp [h1, h2]
theorem saves_ok {F : Ft} (h : FtOk F) : IntKind.wrap .i64 (F.off + F.a.v) = F.off + F.a.v ∧ IntKind.wrap .i64 (F.off + F.b.v) = F.off + F.b.v := by
  obtain ⟨_, h1, h2, h3, h4, _⟩ := h
  have a := h1.2.2.2.2
  have b := h2.2.2.2.2
  exact ⟨wv (by omega) (by omega), wv (by omega) (by omega)⟩
theorem tZ_yes {F : Ft} {u i : Int} (h : AskOk F u) : tZ F u i = sI F i := by
  unfold tZ; simp only [if_pos h]
theorem err_yes {F : Ft} {u : Int} (h : AskOk F u) : err2 F u = 0 := by
  unfold err2; rw [if_pos h.1, if_pos h.2]
theorem err_no {F : Ft} {u : Int} (h : ¬ AskOk F u) : err2 F u ≠ 0 := by
  unfold err2
  by_cases h1 : FtOk F
  · rw [if_pos h1, if_neg (fun q => h ⟨h1, q⟩)]; omega
  · rw [if_neg h1]; omega
theorem lSave_ok {F : Ft} {u : Int} (hF : bdF F = true) (hu : bdU u = true) : AF (tab [(14, cyStand 0), (15, cyStand 0), (16, cyStand 1), (17, cyStand 1), (13, cyKnown), (10, cyGiven)]) 6 8 [.agg (avF F), .int .i64 u] fun u => u = .bool true := by
  rw [lSave_vc]
  refine gvQ_ok (brcT (dec3 hu hF) ?_)
  rintro _ rfl _ rfl _ rfl _ rfl
  by_cases ha : AskOk F u
  · refine brcF (by rw [err_yes ha]; rfl) ?_
    rw [tZ_yes ha, (saves_ok ha.1).1, (saves_ok ha.1).2, show ix F u + 0 = ix F u by omega]
    rcases sI_half F (ix F u) with ⟨e1, e2, e3⟩ | ⟨e1, e2, e3⟩
    · rw [e1, e2, e3]
      refine brcT (by simp) (brcT (by simp) ?_)
      have k : ∀ X : Prop, brc (decide (F.a.v ≠ 0) == (F.a.v != 0)) (∀ m : Bool, m = true → AV.bool m = AV.bool true) X := fun X => brcT (by rw [bne_dec]; simp) (by rintro _ rfl; rfl)
      refine brc_intro (fun _ => brc_intro (fun _ => k _) fun _ => k _) fun _ => k _
    · rw [e1, e2, e3]
      have k : ∀ X : Prop, brc (decide (F.b.v ≠ 0) == (F.b.v != 0)) (∀ m : Bool, m = true → AV.bool m = AV.bool true) X := fun X => brcT (by rw [bne_dec]; simp) (by rintro _ rfl; rfl)
      have k2 : ∀ X : Prop, brc (F.off + F.b.v == F.off + F.b.v) (brc (F.b.ab.toList == F.b.ab.toList) (brc (decide (F.b.v ≠ 0) == (F.b.v != 0)) (∀ m : Bool, m = true → AV.bool m = AV.bool true) X) X) X := fun X => brcT (by simp) (brcT (by simp) (k _))
      refine brc_intro (fun _ => brc_intro (fun _ => ?_) fun _ => k2 _) fun _ => k2 _
      refine brcT (by simp) (brcT (by simp) (brc_intro (fun _ => ?_) fun _ => k _))
      rintro _ rfl
      rfl
  · refine brcT (by simpa using err_no ha) ?_
    rintro _ rfl
    rfl
theorem kt : ∀ m : Bool, m = true → AV.bool m = AV.bool true := by rintro _ rfl; rfl
theorem bu_ok {u : Int} (h : (Lit.int .i64 u).wf = true) : bdU u = true := decide_eq_true (i64_of_wf h)
theorem bd_ok {F : Ft} (h : (Lit.int .i64 F.a.m).wf = true) (k : (Lit.int .i64 F.b.m).wf = true) : bdF F = true := decide_eq_true ⟨(i64_of_wf h).1, (i64_of_wf h).2, (i64_of_wf k).1, (i64_of_wf k).2⟩
end
end Go.Proofs.Ytlpnbbonbclddaa.P
