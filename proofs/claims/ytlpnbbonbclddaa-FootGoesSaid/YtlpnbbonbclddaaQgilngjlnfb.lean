/- The laws of layer 11: what each answers, walked and shown true. -/
import Derived.Test.YtlpnbbonbclddaaQdgcdjbbpap
import Derived.Test.YtlpnbbonbclddaaQljghcgeldd
import Derived.Test.YtlpnbbonbclddaaQbeodhinmnk
import Derived.Test.YtlpnbbonbclddaaQncocjfpffk
namespace Go.Proofs.Ytlpnbbonbclddaa.P
open Go Go.RowKit Go.Proofs.Ytlpnbbonbclddaa.Civ Go.Proofs.Ytlpnbbonbclddaa.Ft
set_option linter.unusedVariables false
set_option linter.unusedSimpArgs false
section
open A
set_option maxRecDepth 100000 in
theorem half_vc (h : Hf) (K : AV → Prop) : AF (tab []) 6 21 [.agg (avH h)] K =
    (K (AV.agg [AV.int IntKind.i64 (Hf.m h), AV.int IntKind.i64 (Hf.k h), AV.int IntKind.i64 (Hf.w h), AV.int IntKind.i64 (Hf.n h), AV.int IntKind.i64 (Hf.s h), AV.int IntKind.u8 (Hf.c h), AV.int IntKind.i64 (Hf.v h), AV.str (Hf.ab h)])) := by kernel_rfl
theorem cyHalf_ok : COk Try.prog 21 cyHalf := af_con tab_nil (by kernel_rfl) fun args p v hc hp => by
  unfold cyHalf at hc
  split at hc
  case h_2 => cases hc
  split at hc
  case h_2 => cases hc
  rename_i h hl
  simp only [Option.some.injEq, Prod.mk.injEq] at hc
  obtain ⟨_, rfl⟩ := hc
  rw [rdH_ok hl]
  refine ⟨rfl, 6, ?_⟩
  rw [half_vc]
  rfl
set_option maxRecDepth 100000 in
theorem given_vc (F : Ft) (K : AV → Prop) : AF (tab [(21, cyHalf)]) 6 10 [.agg (avF F)] K =
    (∀ (m0 : Int), m0 = Hf.m (Ft.a F) → ∀ (m1 : Int), m1 = Hf.k (Ft.a F) → ∀ (m2 : Int), m2 = Hf.w (Ft.a F) → ∀ (m3 : Int), m3 = Hf.n (Ft.a F) → ∀ (m4 : Int), m4 = Hf.s (Ft.a F) → ∀ (m5 : Int), m5 = Hf.c (Ft.a F) → ∀ (m6 : Int), m6 = Hf.v (Ft.a F) → ∀ (m7 : Int), m7 = Hf.m (Ft.b F) → ∀ (m8 : Int), m8 = Hf.k (Ft.b F) → ∀ (m9 : Int), m9 = Hf.w (Ft.b F) → ∀ (m10 : Int), m10 = Hf.n (Ft.b F) → ∀ (m11 : Int), m11 = Hf.s (Ft.b F) → ∀ (m12 : Int), m12 = Hf.c (Ft.b F) → ∀ (m13 : Int), m13 = Hf.v (Ft.b F) → K (AV.agg [AV.bool (Ft.z F), AV.int IntKind.i64 (Ft.fr F), AV.int IntKind.i64 (Ft.off F), AV.int IntKind.i64 m0, AV.int IntKind.i64 m1, AV.int IntKind.i64 m2, AV.int IntKind.i64 m3, AV.int IntKind.i64 m4, AV.int IntKind.u8 m5, AV.int IntKind.i64 m6, AV.str (Hf.ab (Ft.a F)), AV.int IntKind.i64 m7, AV.int IntKind.i64 m8, AV.int IntKind.i64 m9, AV.int IntKind.i64 m10, AV.int IntKind.i64 m11, AV.int IntKind.u8 m12, AV.int IntKind.i64 m13, AV.str (Hf.ab (Ft.b F))])) := by kernel_rfl
theorem cyGiven_ok : COk Try.prog 10 cyGiven := af_con (tab_cons cyHalf_ok tab_nil) (by kernel_rfl) fun args p v hc hp => by
  unfold cyGiven at hc
  split at hc
  case h_2 => cases hc
  split at hc
  case h_2 => cases hc
  rename_i F hl
  simp only [Option.some.injEq, Prod.mk.injEq] at hc
  obtain ⟨_, rfl⟩ := hc
  rw [rdF_ok hl]
  refine ⟨rfl, 6, ?_⟩
  rw [given_vc]
  rintro _ rfl _ rfl _ rfl _ rfl _ rfl _ rfl _ rfl _ rfl _ rfl _ rfl _ rfl _ rfl _ rfl _ rfl
  rfl
/-- A copied foot, its numbers under names. -/
def gvQ (F : Ft) (C : Ft → Prop) : Prop := ∀ z : Bool, z = F.z → ∀ fr : Int, fr = F.fr → ∀ off : Int, off = F.off → ∀ m1 : Int, m1 = F.a.m → ∀ k1 : Int, k1 = F.a.k → ∀ w1 : Int, w1 = F.a.w → ∀ n1 : Int, n1 = F.a.n → ∀ s1 : Int, s1 = F.a.s → ∀ c1 : Int, c1 = F.a.c → ∀ v1 : Int, v1 = F.a.v →
  ∀ m2 : Int, m2 = F.b.m → ∀ k2 : Int, k2 = F.b.k → ∀ w2 : Int, w2 = F.b.w → ∀ n2 : Int, n2 = F.b.n → ∀ s2 : Int, s2 = F.b.s → ∀ c2 : Int, c2 = F.b.c → ∀ v2 : Int, v2 = F.b.v → C ⟨z, fr, off, ⟨m1, k1, w1, n1, s1, c1, v1, F.a.ab⟩, ⟨m2, k2, w2, n2, s2, c2, v2, F.b.ab⟩⟩
theorem gvQ_ok {F : Ft} {C : Ft → Prop} (h : C F) : gvQ F C := by
  rintro _ rfl _ rfl _ rfl _ rfl _ rfl _ rfl _ rfl _ rfl _ rfl _ rfl _ rfl _ rfl _ rfl _ rfl _ rfl _ rfl _ rfl
  exact h
theorem af_calls {T : Tab} (hT : TabOk Try.prog T) {n g : Nat} {args : List AV} (h : AF T n g args fun u => u = .bool true) {w : World} {A : List Value} (hA : RL noNames w args A) : Calls Try.prog g A.toArray w fun e w' => e = .returned (.bool true) ∧ Below w.heap.size w w' := by
  unfold AF at h
  refine (afn_ok mixed hT (ltOk_none Try.prog g) h hA).mono fun e w' he => ?_
  obtain ⟨V, g1, ρ', u, h', g2, g3, g4⟩ := he
  obtain ⟨k1, _⟩ := toNu_ok g3 4 g2 (by rw [g4]; rfl)
  rw [g4, rv_bool] at k1
  exact ⟨by rw [g1, k1], g3.bel⟩
theorem stT_ok : TabOk Try.prog (tab [(14, cyStand 0), (15, cyStand 0), (16, cyStand 1), (17, cyStand 1), (13, cyKnown), (10, cyGiven)]) := tab_cons cyAtF_ok (tab_cons cyAtR_ok (tab_cons cyNextF_ok (tab_cons cyNextR_ok (tab_cons cyKnown_ok (tab_cons cyGiven_ok tab_nil)))))
theorem dec3 {F : Ft} {u : Int} (hu : bdU u = true) (hF : bdF F = true) : decide (-9223372036854775808 ≤ u ∧ u ≤ 9223372036854775807 ∧ -9223372036854775808 ≤ F.a.m ∧ F.a.m ≤ 9223372036854775807 ∧ -9223372036854775808 ≤ F.b.m ∧ F.b.m ≤ 9223372036854775807) = true := by
  have h1 := of_decide_eq_true hu
  have h2 := of_decide_eq_true hF
  exact decide_eq_true ⟨h1.1, h1.2, h2⟩
theorem tZ_yes {F : Ft} {u i : Int} (h : AskOk F u) : tZ F u i = sI F i := by
  unfold tZ; simp only [if_pos h]
theorem err_yes {F : Ft} {u : Int} (h : AskOk F u) : err2 F u = 0 := by
  unfold err2; rw [if_pos h.1, if_pos h.2]
theorem err_no {F : Ft} {u : Int} (h : ¬ AskOk F u) : err2 F u ≠ 0 := by
  unfold err2
  by_cases h1 : FtOk F
  · rw [if_pos h1, if_neg (fun q => h ⟨h1, q⟩)]; omega
  · rw [if_neg h1]; omega
theorem kt : ∀ m : Bool, m = true → AV.bool m = AV.bool true := by rintro _ rfl; rfl
def goG (a b : Int) : Prop := brc (decide (IntKind.wrap .i64 (b - a) > 0)) (brc (decide (IntKind.wrap .i64 (b - a) < 34560000)) (∀ m : Bool, m = true → AV.bool m = AV.bool true) (AV.bool false = AV.bool true)) (AV.bool false = AV.bool true)
theorem goG_ok {F : Ft} {u : Int} (ha : AskOk F u) : goG (sI F (ix F u)).t (sI F (ix F u + 1)).t ∧ IntKind.wrap .i64 ((sI F (ix F u + 1)).t - (sI F (ix F u)).t) = (sI F (ix F u + 1)).t - (sI F (ix F u)).t := by
  have s := sI_step ha.1 (ix F u)
  have e : IntKind.wrap .i64 ((sI F (ix F u + 1)).t - (sI F (ix F u)).t) = (sI F (ix F u + 1)).t - (sI F (ix F u)).t := wv (by omega) (by omega)
  refine ⟨?_, e⟩
  unfold goG
  rw [e]
  exact brcT (decide_eq_true (by omega)) (brcT (decide_eq_true (by omega)) kt)
def goB (F : Ft) (u v : Int) : Prop :=
  brc (decide (-9223372036854775808 ≤ v ∧ v ≤ 9223372036854775807 ∧ -9223372036854775808 ≤ F.a.m ∧ F.a.m ≤ 9223372036854775807 ∧ -9223372036854775808 ≤ F.b.m ∧ F.b.m ≤ 9223372036854775807)) (∀ t : Int, t = (tZ F v (ix F v + 0)).t → ∀ o : Int, o = (tZ F v (ix F v + 0)).off → ∀ d : Bool, d = (tZ F v (ix F v + 0)).dst → ∀ e : Int, e = err2 F v →
    brc (e != 0) (goG (sI F (ix F u)).t (sI F (ix F u + 1)).t) (brc (t == (sI F (ix F u)).t && (o == (sI F (ix F u)).off && (d == (sI F (ix F u)).dst && ((tZ F v (ix F v + 0)).ab.toList == (sI F (ix F u)).ab.toList && true)))) (goG (sI F (ix F u)).t (sI F (ix F u + 1)).t) (AV.bool false = AV.bool true))) False
theorem goB_ok {F : Ft} {u v : Int} (ha : AskOk F u) (hF : bdF F = true) (h1 : (sI F (ix F u)).t ≤ v) (h2 : v < (sI F (ix F u + 1)).t) (h3 : -9223372036854775808 ≤ v) (h4 : v ≤ 9223372036854775807) : goB F u v := by
  refine brcT (decide_eq_true ⟨h3, h4, of_decide_eq_true hF⟩) ?_
  rintro _ rfl _ rfl _ rfl _ rfl
  have e := ix_is ha.1 h1 h2
  have g := (goG_ok ha).1
  by_cases hv : AskOk F v
  · refine brcF (by rw [err_yes hv]; rfl) (brcT ?_ g)
    rw [tZ_yes hv, e, show ix F u + 0 = ix F u by omega]; simp
  · exact brcT (by simpa using err_no hv) g
set_option maxRecDepth 100000 in
theorem lGoes_vc (F : Ft) (u more : Int) (K : AV → Prop) : AF (tab [(14, cyStand 0), (15, cyStand 0), (16, cyStand 1), (17, cyStand 1), (13, cyKnown), (10, cyGiven)]) 6 5 [.agg (avF F), .int .i64 u, .int .i64 more] K =
    (gvQ F (fun G0 => brc (decide (-9223372036854775808 ≤ u ∧ u ≤ 9223372036854775807 ∧ -9223372036854775808 ≤ Hf.m (Ft.a G0) ∧ Hf.m (Ft.a G0) ≤ 9223372036854775807 ∧ -9223372036854775808 ≤ Hf.m (Ft.b G0) ∧ Hf.m (Ft.b G0) ≤ 9223372036854775807)) (∀ (m17 : Int), m17 = Tr.t (tZ G0 u (ix G0 u + 0)) → ∀ (m18 : Int), m18 = Tr.off (tZ G0 u (ix G0 u + 0)) → ∀ (m19 : Bool), m19 = Tr.dst (tZ G0 u (ix G0 u + 0)) → ∀ (m20 : Int), m20 = err2 G0 u → brc (decide (-9223372036854775808 ≤ u ∧ u ≤ 9223372036854775807 ∧ -9223372036854775808 ≤ Hf.m (Ft.a G0) ∧ Hf.m (Ft.a G0) ≤ 9223372036854775807 ∧ -9223372036854775808 ≤ Hf.m (Ft.b G0) ∧ Hf.m (Ft.b G0) ≤ 9223372036854775807)) (∀ (m21 : Int), m21 = Tr.t (tZ G0 u (ix G0 u + 1)) → ∀ (m22 : Int), m22 = Tr.off (tZ G0 u (ix G0 u + 1)) → ∀ (m23 : Bool), m23 = Tr.dst (tZ G0 u (ix G0 u + 1)) → ∀ (m24 : Int), m24 = err2 G0 u → brc (m20 != 0) (brc (m20 == m24) (∀ (m25 : Bool), m25 = true → K (AV.bool m25)) (K (AV.bool false))) (brc (m24 != 0) (brc (m20 == m24) (∀ (m25 : Bool), m25 = true → K (AV.bool m25)) (K (AV.bool false))) (brc (decide (m17 > u)) (K (AV.bool false)) (brc (decide (m21 ≤ u)) (K (AV.bool false)) (brc (decide (-9223372036854775808 ≤ m21 ∧ m21 ≤ 9223372036854775807 ∧ -9223372036854775808 ≤ Hf.m (Ft.a G0) ∧ Hf.m (Ft.a G0) ≤ 9223372036854775807 ∧ -9223372036854775808 ≤ Hf.m (Ft.b G0) ∧ Hf.m (Ft.b G0) ≤ 9223372036854775807)) (∀ (m25 : Int), m25 = Tr.t (tZ G0 m21 (ix G0 m21 + 0)) → ∀ (m26 : Int), m26 = Tr.off (tZ G0 m21 (ix G0 m21 + 0)) → ∀ (m27 : Bool), m27 = Tr.dst (tZ G0 m21 (ix G0 m21 + 0)) → ∀ (m28 : Int), m28 = err2 G0 m21 → brc (m28 == 0) (brc (!(m25 == m21 && (m26 == m22 && (m27 == m23 && (ByteArray.toList (Tr.ab (tZ G0 m21 (ix G0 m21 + 0))) == ByteArray.toList (Tr.ab (tZ G0 u (ix G0 u + 1))) && true))))) (K (AV.bool false)) (brc (decide (more < 0)) (brc (decide (-9223372036854775808 ≤ IntKind.wrap IntKind.i64 (m17 + IntKind.wrap IntKind.i64 (IntKind.wrap IntKind.i64 (m21 - m17) - 1)) ∧ IntKind.wrap IntKind.i64 (m17 + IntKind.wrap IntKind.i64 (IntKind.wrap IntKind.i64 (m21 - m17) - 1)) ≤ 9223372036854775807 ∧ -9223372036854775808 ≤ Hf.m (Ft.a G0) ∧ Hf.m (Ft.a G0) ≤ 9223372036854775807 ∧ -9223372036854775808 ≤ Hf.m (Ft.b G0) ∧ Hf.m (Ft.b G0) ≤ 9223372036854775807)) (∀ (m29 : Int), m29 = Tr.t (tZ G0 (IntKind.wrap IntKind.i64 (m17 + IntKind.wrap IntKind.i64 (IntKind.wrap IntKind.i64 (m21 - m17) - 1))) (ix G0 (IntKind.wrap IntKind.i64 (m17 + IntKind.wrap IntKind.i64 (IntKind.wrap IntKind.i64 (m21 - m17) - 1))) + 0)) → ∀ (m30 : Int), m30 = Tr.off (tZ G0 (IntKind.wrap IntKind.i64 (m17 + IntKind.wrap IntKind.i64 (IntKind.wrap IntKind.i64 (m21 - m17) - 1))) (ix G0 (IntKind.wrap IntKind.i64 (m17 + IntKind.wrap IntKind.i64 (IntKind.wrap IntKind.i64 (m21 - m17) - 1))) + 0)) → ∀ (m31 : Bool), m31 = Tr.dst (tZ G0 (IntKind.wrap IntKind.i64 (m17 + IntKind.wrap IntKind.i64 (IntKind.wrap IntKind.i64 (m21 - m17) - 1))) (ix G0 (IntKind.wrap IntKind.i64 (m17 + IntKind.wrap IntKind.i64 (IntKind.wrap IntKind.i64 (m21 - m17) - 1))) + 0)) → ∀ (m32 : Int), m32 = err2 G0 (IntKind.wrap IntKind.i64 (m17 + IntKind.wrap IntKind.i64 (IntKind.wrap IntKind.i64 (m21 - m17) - 1))) → brc (m32 != 0) (brc (decide (IntKind.wrap IntKind.i64 (m21 - m17) > 0)) (brc (decide (IntKind.wrap IntKind.i64 (m21 - m17) < 34560000)) (∀ (m33 : Bool), m33 = true → K (AV.bool m33)) (K (AV.bool false))) (K (AV.bool false))) (brc (m29 == m17 && (m30 == m18 && (m31 == m19 && (ByteArray.toList (Tr.ab (tZ G0 (IntKind.wrap IntKind.i64 (m17 + IntKind.wrap IntKind.i64 (IntKind.wrap IntKind.i64 (m21 - m17) - 1))) (ix G0 (IntKind.wrap IntKind.i64 (m17 + IntKind.wrap IntKind.i64 (IntKind.wrap IntKind.i64 (m21 - m17) - 1))) + 0))) == ByteArray.toList (Tr.ab (tZ G0 u (ix G0 u + 0))) && true)))) (brc (decide (IntKind.wrap IntKind.i64 (m21 - m17) > 0)) (brc (decide (IntKind.wrap IntKind.i64 (m21 - m17) < 34560000)) (∀ (m33 : Bool), m33 = true → K (AV.bool m33)) (K (AV.bool false))) (K (AV.bool false))) (K (AV.bool false)))) False) (brc (decide (more ≥ IntKind.wrap IntKind.i64 (m21 - m17))) (brc (decide (-9223372036854775808 ≤ IntKind.wrap IntKind.i64 (m17 + IntKind.wrap IntKind.i64 (IntKind.wrap IntKind.i64 (m21 - m17) - 1)) ∧ IntKind.wrap IntKind.i64 (m17 + IntKind.wrap IntKind.i64 (IntKind.wrap IntKind.i64 (m21 - m17) - 1)) ≤ 9223372036854775807 ∧ -9223372036854775808 ≤ Hf.m (Ft.a G0) ∧ Hf.m (Ft.a G0) ≤ 9223372036854775807 ∧ -9223372036854775808 ≤ Hf.m (Ft.b G0) ∧ Hf.m (Ft.b G0) ≤ 9223372036854775807)) (∀ (m29 : Int), m29 = Tr.t (tZ G0 (IntKind.wrap IntKind.i64 (m17 + IntKind.wrap IntKind.i64 (IntKind.wrap IntKind.i64 (m21 - m17) - 1))) (ix G0 (IntKind.wrap IntKind.i64 (m17 + IntKind.wrap IntKind.i64 (IntKind.wrap IntKind.i64 (m21 - m17) - 1))) + 0)) → ∀ (m30 : Int), m30 = Tr.off (tZ G0 (IntKind.wrap IntKind.i64 (m17 + IntKind.wrap IntKind.i64 (IntKind.wrap IntKind.i64 (m21 - m17) - 1))) (ix G0 (IntKind.wrap IntKind.i64 (m17 + IntKind.wrap IntKind.i64 (IntKind.wrap IntKind.i64 (m21 - m17) - 1))) + 0)) → ∀ (m31 : Bool), m31 = Tr.dst (tZ G0 (IntKind.wrap IntKind.i64 (m17 + IntKind.wrap IntKind.i64 (IntKind.wrap IntKind.i64 (m21 - m17) - 1))) (ix G0 (IntKind.wrap IntKind.i64 (m17 + IntKind.wrap IntKind.i64 (IntKind.wrap IntKind.i64 (m21 - m17) - 1))) + 0)) → ∀ (m32 : Int), m32 = err2 G0 (IntKind.wrap IntKind.i64 (m17 + IntKind.wrap IntKind.i64 (IntKind.wrap IntKind.i64 (m21 - m17) - 1))) → brc (m32 != 0) (brc (decide (IntKind.wrap IntKind.i64 (m21 - m17) > 0)) (brc (decide (IntKind.wrap IntKind.i64 (m21 - m17) < 34560000)) (∀ (m33 : Bool), m33 = true → K (AV.bool m33)) (K (AV.bool false))) (K (AV.bool false))) (brc (m29 == m17 && (m30 == m18 && (m31 == m19 && (ByteArray.toList (Tr.ab (tZ G0 (IntKind.wrap IntKind.i64 (m17 + IntKind.wrap IntKind.i64 (IntKind.wrap IntKind.i64 (m21 - m17) - 1))) (ix G0 (IntKind.wrap IntKind.i64 (m17 + IntKind.wrap IntKind.i64 (IntKind.wrap IntKind.i64 (m21 - m17) - 1))) + 0))) == ByteArray.toList (Tr.ab (tZ G0 u (ix G0 u + 0))) && true)))) (brc (decide (IntKind.wrap IntKind.i64 (m21 - m17) > 0)) (brc (decide (IntKind.wrap IntKind.i64 (m21 - m17) < 34560000)) (∀ (m33 : Bool), m33 = true → K (AV.bool m33)) (K (AV.bool false))) (K (AV.bool false))) (K (AV.bool false)))) False) (brc (decide (-9223372036854775808 ≤ IntKind.wrap IntKind.i64 (m17 + more) ∧ IntKind.wrap IntKind.i64 (m17 + more) ≤ 9223372036854775807 ∧ -9223372036854775808 ≤ Hf.m (Ft.a G0) ∧ Hf.m (Ft.a G0) ≤ 9223372036854775807 ∧ -9223372036854775808 ≤ Hf.m (Ft.b G0) ∧ Hf.m (Ft.b G0) ≤ 9223372036854775807)) (∀ (m29 : Int), m29 = Tr.t (tZ G0 (IntKind.wrap IntKind.i64 (m17 + more)) (ix G0 (IntKind.wrap IntKind.i64 (m17 + more)) + 0)) → ∀ (m30 : Int), m30 = Tr.off (tZ G0 (IntKind.wrap IntKind.i64 (m17 + more)) (ix G0 (IntKind.wrap IntKind.i64 (m17 + more)) + 0)) → ∀ (m31 : Bool), m31 = Tr.dst (tZ G0 (IntKind.wrap IntKind.i64 (m17 + more)) (ix G0 (IntKind.wrap IntKind.i64 (m17 + more)) + 0)) → ∀ (m32 : Int), m32 = err2 G0 (IntKind.wrap IntKind.i64 (m17 + more)) → brc (m32 != 0) (brc (decide (IntKind.wrap IntKind.i64 (m21 - m17) > 0)) (brc (decide (IntKind.wrap IntKind.i64 (m21 - m17) < 34560000)) (∀ (m33 : Bool), m33 = true → K (AV.bool m33)) (K (AV.bool false))) (K (AV.bool false))) (brc (m29 == m17 && (m30 == m18 && (m31 == m19 && (ByteArray.toList (Tr.ab (tZ G0 (IntKind.wrap IntKind.i64 (m17 + more)) (ix G0 (IntKind.wrap IntKind.i64 (m17 + more)) + 0))) == ByteArray.toList (Tr.ab (tZ G0 u (ix G0 u + 0))) && true)))) (brc (decide (IntKind.wrap IntKind.i64 (m21 - m17) > 0)) (brc (decide (IntKind.wrap IntKind.i64 (m21 - m17) < 34560000)) (∀ (m33 : Bool), m33 = true → K (AV.bool m33)) (K (AV.bool false))) (K (AV.bool false))) (K (AV.bool false)))) False)))) (brc (decide (more < 0)) (brc (decide (-9223372036854775808 ≤ IntKind.wrap IntKind.i64 (m17 + IntKind.wrap IntKind.i64 (IntKind.wrap IntKind.i64 (m21 - m17) - 1)) ∧ IntKind.wrap IntKind.i64 (m17 + IntKind.wrap IntKind.i64 (IntKind.wrap IntKind.i64 (m21 - m17) - 1)) ≤ 9223372036854775807 ∧ -9223372036854775808 ≤ Hf.m (Ft.a G0) ∧ Hf.m (Ft.a G0) ≤ 9223372036854775807 ∧ -9223372036854775808 ≤ Hf.m (Ft.b G0) ∧ Hf.m (Ft.b G0) ≤ 9223372036854775807)) (∀ (m29 : Int), m29 = Tr.t (tZ G0 (IntKind.wrap IntKind.i64 (m17 + IntKind.wrap IntKind.i64 (IntKind.wrap IntKind.i64 (m21 - m17) - 1))) (ix G0 (IntKind.wrap IntKind.i64 (m17 + IntKind.wrap IntKind.i64 (IntKind.wrap IntKind.i64 (m21 - m17) - 1))) + 0)) → ∀ (m30 : Int), m30 = Tr.off (tZ G0 (IntKind.wrap IntKind.i64 (m17 + IntKind.wrap IntKind.i64 (IntKind.wrap IntKind.i64 (m21 - m17) - 1))) (ix G0 (IntKind.wrap IntKind.i64 (m17 + IntKind.wrap IntKind.i64 (IntKind.wrap IntKind.i64 (m21 - m17) - 1))) + 0)) → ∀ (m31 : Bool), m31 = Tr.dst (tZ G0 (IntKind.wrap IntKind.i64 (m17 + IntKind.wrap IntKind.i64 (IntKind.wrap IntKind.i64 (m21 - m17) - 1))) (ix G0 (IntKind.wrap IntKind.i64 (m17 + IntKind.wrap IntKind.i64 (IntKind.wrap IntKind.i64 (m21 - m17) - 1))) + 0)) → ∀ (m32 : Int), m32 = err2 G0 (IntKind.wrap IntKind.i64 (m17 + IntKind.wrap IntKind.i64 (IntKind.wrap IntKind.i64 (m21 - m17) - 1))) → brc (m32 != 0) (brc (decide (IntKind.wrap IntKind.i64 (m21 - m17) > 0)) (brc (decide (IntKind.wrap IntKind.i64 (m21 - m17) < 34560000)) (∀ (m33 : Bool), m33 = true → K (AV.bool m33)) (K (AV.bool false))) (K (AV.bool false))) (brc (m29 == m17 && (m30 == m18 && (m31 == m19 && (ByteArray.toList (Tr.ab (tZ G0 (IntKind.wrap IntKind.i64 (m17 + IntKind.wrap IntKind.i64 (IntKind.wrap IntKind.i64 (m21 - m17) - 1))) (ix G0 (IntKind.wrap IntKind.i64 (m17 + IntKind.wrap IntKind.i64 (IntKind.wrap IntKind.i64 (m21 - m17) - 1))) + 0))) == ByteArray.toList (Tr.ab (tZ G0 u (ix G0 u + 0))) && true)))) (brc (decide (IntKind.wrap IntKind.i64 (m21 - m17) > 0)) (brc (decide (IntKind.wrap IntKind.i64 (m21 - m17) < 34560000)) (∀ (m33 : Bool), m33 = true → K (AV.bool m33)) (K (AV.bool false))) (K (AV.bool false))) (K (AV.bool false)))) False) (brc (decide (more ≥ IntKind.wrap IntKind.i64 (m21 - m17))) (brc (decide (-9223372036854775808 ≤ IntKind.wrap IntKind.i64 (m17 + IntKind.wrap IntKind.i64 (IntKind.wrap IntKind.i64 (m21 - m17) - 1)) ∧ IntKind.wrap IntKind.i64 (m17 + IntKind.wrap IntKind.i64 (IntKind.wrap IntKind.i64 (m21 - m17) - 1)) ≤ 9223372036854775807 ∧ -9223372036854775808 ≤ Hf.m (Ft.a G0) ∧ Hf.m (Ft.a G0) ≤ 9223372036854775807 ∧ -9223372036854775808 ≤ Hf.m (Ft.b G0) ∧ Hf.m (Ft.b G0) ≤ 9223372036854775807)) (∀ (m29 : Int), m29 = Tr.t (tZ G0 (IntKind.wrap IntKind.i64 (m17 + IntKind.wrap IntKind.i64 (IntKind.wrap IntKind.i64 (m21 - m17) - 1))) (ix G0 (IntKind.wrap IntKind.i64 (m17 + IntKind.wrap IntKind.i64 (IntKind.wrap IntKind.i64 (m21 - m17) - 1))) + 0)) → ∀ (m30 : Int), m30 = Tr.off (tZ G0 (IntKind.wrap IntKind.i64 (m17 + IntKind.wrap IntKind.i64 (IntKind.wrap IntKind.i64 (m21 - m17) - 1))) (ix G0 (IntKind.wrap IntKind.i64 (m17 + IntKind.wrap IntKind.i64 (IntKind.wrap IntKind.i64 (m21 - m17) - 1))) + 0)) → ∀ (m31 : Bool), m31 = Tr.dst (tZ G0 (IntKind.wrap IntKind.i64 (m17 + IntKind.wrap IntKind.i64 (IntKind.wrap IntKind.i64 (m21 - m17) - 1))) (ix G0 (IntKind.wrap IntKind.i64 (m17 + IntKind.wrap IntKind.i64 (IntKind.wrap IntKind.i64 (m21 - m17) - 1))) + 0)) → ∀ (m32 : Int), m32 = err2 G0 (IntKind.wrap IntKind.i64 (m17 + IntKind.wrap IntKind.i64 (IntKind.wrap IntKind.i64 (m21 - m17) - 1))) → brc (m32 != 0) (brc (decide (IntKind.wrap IntKind.i64 (m21 - m17) > 0)) (brc (decide (IntKind.wrap IntKind.i64 (m21 - m17) < 34560000)) (∀ (m33 : Bool), m33 = true → K (AV.bool m33)) (K (AV.bool false))) (K (AV.bool false))) (brc (m29 == m17 && (m30 == m18 && (m31 == m19 && (ByteArray.toList (Tr.ab (tZ G0 (IntKind.wrap IntKind.i64 (m17 + IntKind.wrap IntKind.i64 (IntKind.wrap IntKind.i64 (m21 - m17) - 1))) (ix G0 (IntKind.wrap IntKind.i64 (m17 + IntKind.wrap IntKind.i64 (IntKind.wrap IntKind.i64 (m21 - m17) - 1))) + 0))) == ByteArray.toList (Tr.ab (tZ G0 u (ix G0 u + 0))) && true)))) (brc (decide (IntKind.wrap IntKind.i64 (m21 - m17) > 0)) (brc (decide (IntKind.wrap IntKind.i64 (m21 - m17) < 34560000)) (∀ (m33 : Bool), m33 = true → K (AV.bool m33)) (K (AV.bool false))) (K (AV.bool false))) (K (AV.bool false)))) False) (brc (decide (-9223372036854775808 ≤ IntKind.wrap IntKind.i64 (m17 + more) ∧ IntKind.wrap IntKind.i64 (m17 + more) ≤ 9223372036854775807 ∧ -9223372036854775808 ≤ Hf.m (Ft.a G0) ∧ Hf.m (Ft.a G0) ≤ 9223372036854775807 ∧ -9223372036854775808 ≤ Hf.m (Ft.b G0) ∧ Hf.m (Ft.b G0) ≤ 9223372036854775807)) (∀ (m29 : Int), m29 = Tr.t (tZ G0 (IntKind.wrap IntKind.i64 (m17 + more)) (ix G0 (IntKind.wrap IntKind.i64 (m17 + more)) + 0)) → ∀ (m30 : Int), m30 = Tr.off (tZ G0 (IntKind.wrap IntKind.i64 (m17 + more)) (ix G0 (IntKind.wrap IntKind.i64 (m17 + more)) + 0)) → ∀ (m31 : Bool), m31 = Tr.dst (tZ G0 (IntKind.wrap IntKind.i64 (m17 + more)) (ix G0 (IntKind.wrap IntKind.i64 (m17 + more)) + 0)) → ∀ (m32 : Int), m32 = err2 G0 (IntKind.wrap IntKind.i64 (m17 + more)) → brc (m32 != 0) (brc (decide (IntKind.wrap IntKind.i64 (m21 - m17) > 0)) (brc (decide (IntKind.wrap IntKind.i64 (m21 - m17) < 34560000)) (∀ (m33 : Bool), m33 = true → K (AV.bool m33)) (K (AV.bool false))) (K (AV.bool false))) (brc (m29 == m17 && (m30 == m18 && (m31 == m19 && (ByteArray.toList (Tr.ab (tZ G0 (IntKind.wrap IntKind.i64 (m17 + more)) (ix G0 (IntKind.wrap IntKind.i64 (m17 + more)) + 0))) == ByteArray.toList (Tr.ab (tZ G0 u (ix G0 u + 0))) && true)))) (brc (decide (IntKind.wrap IntKind.i64 (m21 - m17) > 0)) (brc (decide (IntKind.wrap IntKind.i64 (m21 - m17) < 34560000)) (∀ (m33 : Bool), m33 = true → K (AV.bool m33)) (K (AV.bool false))) (K (AV.bool false))) (K (AV.bool false)))) False)))) False))))) False) False)) := by kernel_rfl
theorem lGoes_ok {F : Ft} {u more : Int} (hF : bdF F = true) (hu : bdU u = true) (hm : -9223372036854775808 ≤ more ∧ more ≤ 9223372036854775807) : AF (tab [(14, cyStand 0), (15, cyStand 0), (16, cyStand 1), (17, cyStand 1), (13, cyKnown), (10, cyGiven)]) 6 5 [.agg (avF F), .int .i64 u, .int .i64 more] fun u => u = .bool true := by
  rw [lGoes_vc]
  refine gvQ_ok (brcT (dec3 hu hF) ?_)
  rintro _ rfl _ rfl _ rfl _ rfl
  refine brcT (dec3 hu hF) ?_
  rintro _ rfl _ rfl _ rfl _ rfl
  by_cases ha : AskOk F u
  case neg => exact brcT (by simpa using err_no ha) (brcT (by simp) kt)
  obtain ⟨s1, s2⟩ := ix_spec ha.1 u
  have st := sI_step ha.1 (ix F u)
  obtain ⟨_, r1, r2, _⟩ := ask_year ha
  have b1 := sI_i64 ha.1 (i := ix F u) (by have := ha.2; omega) (by have := ha.2; omega)
  have b2 := sI_i64 ha.1 (i := ix F u + 1) (by have := ha.2; omega) (by have := ha.2; omega)
  rw [err_yes ha, tZ_yes ha, tZ_yes ha, show ix F u + 0 = ix F u by omega]
  refine brcF rfl (brcF rfl (brcF (decide_eq_false (by omega)) (brcF (decide_eq_false (by omega)) (brcT (decide_eq_true ⟨by omega, by omega, of_decide_eq_true hF⟩) ?_))))
  rintro _ rfl _ rfl _ rfl _ rfl
  have gw := (goG_ok ha).2
  have w1 : IntKind.wrap .i64 ((sI F (ix F u + 1)).t - (sI F (ix F u)).t - 1) = (sI F (ix F u + 1)).t - (sI F (ix F u)).t - 1 := wv (by omega) (by omega)
  have w2 : IntKind.wrap .i64 ((sI F (ix F u)).t + ((sI F (ix F u + 1)).t - (sI F (ix F u)).t - 1)) = (sI F (ix F u + 1)).t - 1 := by rw [wv (by omega) (by omega)]; omega
  have k1 : goB F u (IntKind.wrap .i64 ((sI F (ix F u)).t + IntKind.wrap .i64 (IntKind.wrap .i64 ((sI F (ix F u + 1)).t - (sI F (ix F u)).t) - 1))) := by
    rw [gw, w1, w2]
    exact goB_ok ha hF (by omega) (by omega) (by omega) (by omega)
  have fin : ∀ {X : Prop}, (X → X) → brc (decide (more < 0)) (goB F u (IntKind.wrap .i64 ((sI F (ix F u)).t + IntKind.wrap .i64 (IntKind.wrap .i64 ((sI F (ix F u + 1)).t - (sI F (ix F u)).t) - 1)))) (brc (decide (more ≥ IntKind.wrap .i64 ((sI F (ix F u + 1)).t - (sI F (ix F u)).t))) (goB F u (IntKind.wrap .i64 ((sI F (ix F u)).t + IntKind.wrap .i64 (IntKind.wrap .i64 ((sI F (ix F u + 1)).t - (sI F (ix F u)).t) - 1)))) (goB F u (IntKind.wrap .i64 ((sI F (ix F u)).t + more)))) := fun _ => by
    refine brc_intro (fun _ => k1) fun q1 => brc_intro (fun _ => k1) fun q2 => ?_
    have q1 := of_decide_eq_false q1
    have q2 := of_decide_eq_false q2
    rw [gw] at q2
    rw [wv (x := (sI F (ix F u)).t + more) (by omega) (by omega)]
    exact goB_ok ha hF (by omega) (by omega) (by omega) (by omega)
  by_cases hv : AskOk F (sI F (ix F u + 1)).t
  · have e : ix F (sI F (ix F u + 1)).t = ix F u + 1 := ix_is ha.1 (Int.le_refl _) (sI_step ha.1 (ix F u + 1)).1
    refine brcT (by rw [err_yes hv]; rfl) (brcF ?_ (fin (X := True) id))
    rw [tZ_yes hv, e, show ix F u + 1 + 0 = ix F u + 1 by omega]; simp
  · exact brcF (by simpa using err_no hv) (fin (X := True) id)
theorem bu_ok {u : Int} (h : (Lit.int .i64 u).wf = true) : bdU u = true := decide_eq_true (i64_of_wf h)
theorem bd_ok {F : Ft} (h : (Lit.int .i64 F.a.m).wf = true) (k : (Lit.int .i64 F.b.m).wf = true) : bdF F = true := decide_eq_true ⟨(i64_of_wf h).1, (i64_of_wf h).2, (i64_of_wf k).1, (i64_of_wf k).2⟩
end
end Go.Proofs.Ytlpnbbonbclddaa.P
