/- The reference's day of a month, the instants of both, and the reference's shift of a year. -/
import Derived.Test.YtlpnbbonbclddaaQmlabkohahi
namespace Go.Proofs.Ytlpnbbonbclddaa.P
open Go Go.RowKit Go.Proofs.Ytlpnbbonbclddaa.Civ Go.Proofs.Ytlpnbbonbclddaa.Ft
set_option linter.unusedVariables false
set_option linter.unusedSimpArgs false
section
open A
set_option maxRecDepth 100000 in
theorem inst_vc (d s c off v : Int) (K : AV → Prop) : AF (tab []) 6 31 [.int .i64 d, .int .i64 s, .int .u8 c, .int .i64 off, .int .i64 v] K =
    (brc (c == 117) (K (AV.int IntKind.i64 (IntKind.wrap IntKind.i64 (IntKind.wrap IntKind.i64 (IntKind.wrap IntKind.i64 (IntKind.wrap IntKind.i64 (IntKind.wrap IntKind.i64 (d + 10957) * 86400) + s) - 0) - 0)))) (brc (c == 115) (K (AV.int IntKind.i64 (IntKind.wrap IntKind.i64 (IntKind.wrap IntKind.i64 (IntKind.wrap IntKind.i64 (IntKind.wrap IntKind.i64 (IntKind.wrap IntKind.i64 (d + 10957) * 86400) + s) - off) - 0)))) (K (AV.int IntKind.i64 (IntKind.wrap IntKind.i64 (IntKind.wrap IntKind.i64 (IntKind.wrap IntKind.i64 (IntKind.wrap IntKind.i64 (IntKind.wrap IntKind.i64 (d + 10957) * 86400) + s) - off) - v)))))) := by kernel_rfl
theorem cyInst_ok : COk Try.prog 31 cyInst := af_con tab_nil (by kernel_rfl) fun args p v hc hp => by
  unfold cyInst at hc
  split at hc
  case h_2 => cases hc
  rename_i d s c off v
  simp only [Option.some.injEq, Prod.mk.injEq] at hc
  obtain ⟨rfl, rfl⟩ := hc
  obtain ⟨h1, h2, h3, h4, h5, h6, h7, h8⟩ := of_decide_eq_true hp
  refine ⟨rfl, 6, ?_⟩
  rw [inst_vc]
  rw [wv (x := d + 10957) (by omega) (by omega), wv (x := (d + 10957) * 86400) (by omega) (by omega), wv (x := (d + 10957) * 86400 + s) (by omega) (by omega)]
  rw [wv (x := (d + 10957) * 86400 + s - 0) (by omega) (by omega), wv (x := (d + 10957) * 86400 + s - off) (by omega) (by omega)]
  unfold inst
  refine brc_intro (fun h => ?_) fun h => brc_intro (fun g => ?_) fun g => ?_
  · have h : c = 117 := by simpa using h
    rw [wv (by omega) (by omega), if_pos h, if_pos (.inl h)]
  · have h : ¬ c = 117 := by simpa using h
    have g : c = 115 := by simpa using g
    rw [wv (by omega) (by omega), if_neg h, if_pos (.inr g)]
  · have h : ¬ c = 117 := by simpa using h
    have g : ¬ c = 115 := by simpa using g
    rw [wv (by omega) (by omega), if_neg h, if_neg (by omega)]
theorem bne_dec (v : Int) : (v != 0) = decide (v ≠ 0) := by by_cases e : v = 0 <;> simp [e]
theorem day_in {h o : Hf} {off y : Int} (h1 : HfOk h) (h2 : HfOk o) (h3 : -50400 ≤ off) (h4 : off ≤ 50400) (h5 : -4718 < y) (h6 : y < 294282) : -10000000000 ≤ dayOn y h.m h.k h.w h.n ∧ dayOn y h.m h.k h.w h.n ≤ 10000000000 ∧ 0 ≤ h.s ∧ h.s ≤ 86400 ∧ -50400 ≤ off ∧ off ≤ 50400 ∧ 0 ≤ o.v ∧ o.v ≤ 7200 := by
  have hb := dayOn_bd (y := y) h1.1 h1.2.1 h1.2.2.1
  have hc := cum_top (y := y) h1.1 h1.2.1
  have hd : -3000000 ≤ dby y ∧ dby y ≤ 110000000 := by unfold dby; omega
  exact ⟨by omega, by omega, h1.2.2.2.1.1, h1.2.2.2.1.2.1, h3, h4, h2.2.2.2.2.1, h2.2.2.2.2.2⟩
end
end Go.Proofs.Ytlpnbbonbclddaa.P
