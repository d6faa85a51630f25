/- Which interval is the longer one; as often as said; days of 24 hours and months of 30 days. -/
import Derived.Test.YtfpclhkieccojaaQmjlohbmpef
import Derived.Test.YtfpclhkieccojaaQnlgncfaieh
import Derived.Test.YtfpclhkieccojaaQgcopfjplea
import Derived.Test.YtfpclhkieccojaaQalcddkcjnb
import Derived.Test.YtfpclhkieccojaaQeafcmfchom
import Derived.Test.YtfpclhkieccojaaQhndhnmlajo
import Derived.Test.YtfpclhkieccojaaQfibmdljcim
import Derived.Test.YtfpclhkieccojaaQoimnmpglbn
import Derived.Test.YtfpclhkieccojaaQfbfdmbekpk
import Derived.Test.YtfpclhkieccojaaQpcogccbpcl
import Derived.Test.YtfpclhkieccojaaQfhfaejliib
import Derived.Test.YtfpclhkieccojaaQcmeemmflga
import Derived.Test.YtfpclhkieccojaaQgnpffaanid
import Derived.Test.YtfpclhkieccojaaQjdhaoogbfm
import Derived.Test.YtfpclhkieccojaaQbhlffekofa
import Derived.Test.YtfpclhkieccojaaQehmbfliiap
import Derived.Test.YtfpclhkieccojaaQgehimdnfed
import Derived.Test.YtfpclhkieccojaaQglcnddgfgg
import Derived.Test.YtfpclhkieccojaaQchjnooobfh
import Derived.Test.YtfpclhkieccojaaQmpnnhdfopl
import Derived.Test.YtfpclhkieccojaaQjfcifpakge
import Derived.Test.YtfpclhkieccojaaQfbblkolobl
namespace Go.Proofs.Ytfpclhkieccojaa.Civ
set_option linter.unusedVariables false
set_option linter.unusedSimpArgs false
open Go.RowKit Go.Proofs.YtfpclhkieccojaaW.PrintWords Go.Proofs.YtfpclhkieccojaaW.PrintLast Go.Proofs.YtfpclhkieccojaaW.PrintMore Go.Proofs.Ytfpclhkieccojaa.P
/-- Microseconds in all. -/
def tot (m d u : Int) : Int := (m * 30 + d) * 86400000000 + u
theorem sgn_lex {a b p q x y : Int} (hx : x = a * 86400000000 + p) (hy : y = b * 86400000000 + q) (hp : 0 ≤ p ∧ p < 86400000000) (hq : 0 ≤ q ∧ q < 86400000000) : (if sgn a b = 0 then sgn p q else sgn a b) = sgn x y := by
  rcases Int.lt_trichotomy a b with h | h | h
  · rw [sgn_lt h, if_neg (by decide), sgn_lt (by omega)]
  · rw [sgn_eq h, if_pos rfl]
    rcases Int.lt_trichotomy p q with g | g | g
    · rw [sgn_lt g, sgn_lt (by omega)]
    · rw [sgn_eq g, sgn_eq (by omega)]
    · rw [sgn_gt g, sgn_gt (by omega)]
  · rw [sgn_gt h, if_neg (by decide), sgn_gt (by omega)]
theorem long_eq (k : Nat) {i m d u : Int} (h : SOk i m d u) : span_long.f (k + 1) i m d u = some (m * 30 + d + u / 86400000000, u % 86400000000) := by
  unfold span_long.f
  rw [split_eq k u (sok_i64 h).2.2.2]
  unfold SOk at h
  simp only [Option.bind_some]
  rw [w64 (x := m * 30) (by omega) (by omega), w64 (x := m * 30 + d) (by omega) (by omega), w64 (by omega) (by omega)]
theorem order_ev (a p b q : Int) : Ev (fun k => span_length_order.f k a p b q) (if sgn a b = 0 then sgn p q else sgn a b) := by
  unfold span_length_order.f
  refine Ev.bind0 (cmp64_eq a b) ?_
  refine Ev.bind0 (cmp64_eq p q) ?_
  exact Ev.bind (or_ev _ _) (Ev.now _)
def cmpS (i m d u j n e v : Int) : Int := if SOk i m d u ∧ SOk j n e v then (if sgn i j = 0 then sgn (tot m d u) (tot n e v) else sgn i j) else 0
theorem tot_parts (m d u : Int) : tot m d u = (m * 30 + d + u / 86400000000) * 86400000000 + u % 86400000000 := by unfold tot; omega
theorem cmpS_ev (i m d u j n e v : Int) (hu : I64 u) (hv : I64 v) : Ev (fun k => span_Cmp.f k i m d u j n e v) (cmpS i m d u j n e v) := by
  unfold span_Cmp.f cmpS
  refine Ev.bind0 (right_eq i m d u hu) ?_
  by_cases h1 : SOk i m d u
  · rw [decide_eq_true h1]
    refine Ev.pos rfl ?_
    refine Ev.bind0 (right_eq j n e v hv) ?_
    by_cases h2 : SOk j n e v
    · rw [decide_eq_true h2, if_pos ⟨h1, h2⟩]
      refine Ev.succ ?_
      simp only [span_Cmp.j0, Bool.not_true, Bool.false_eq_true, if_false]
      refine Ev.bind0 (cmpi_eq i j) ?_
      by_cases h3 : sgn i j = 0
      · refine Ev.pos h3 ?_
        rw [if_pos h3]
        refine Ev.bind (Ev.at1 fun k => long_eq k h1) ?_
        refine Ev.bind (Ev.at1 fun k => long_eq k h2) ?_
        refine Ev.bind (order_ev _ _ _ _) ?_
        rw [sgn_lex (tot_parts m d u) (tot_parts n e v) (by omega) (by omega)]
        exact Ev.now _
      · refine Ev.neg h3 ?_; rw [if_neg h3]; exact Ev.now _
    · rw [decide_eq_false h2, if_neg (fun f => h2 f.2)]
      refine Ev.succ ?_
      simp only [span_Cmp.j0, Bool.not_false, if_true]
      exact Ev.now _
  · rw [decide_eq_false h1, if_neg (fun f => h1 f.1)]
    refine Ev.neg (by simp) ?_
    refine Ev.succ ?_
    simp only [span_Cmp.j0, if_true]
    exact Ev.now _
theorem tot_bd {i m d u : Int} (h : SOk i m d u) : -6000000000000000000000 ≤ tot m d u ∧ tot m d u ≤ 6000000000000000000000 := by
  unfold SOk at h
  unfold tot
  omega
theorem rlong_ev {i m d u : Int} (h : SOk i m d u) : Ev (fun k => computusref16_Long.f k i m d u) (ng (tot m d u), dg (tot m d u)) := by
  have hb := tot_bd h
  have h64 := sok_i64 h
  unfold computusref16_Long.f
  have e : wrap64 (wrap64 (m * 30) + d) = m * 30 + d := by
    unfold SOk at h
    rw [w64 (x := m * 30) (by omega) (by omega), w64 (by omega) (by omega)]
  have hz : -9223372036854775808 ≤ m * 30 + d ∧ m * 30 + d ≤ 9223372036854775807 := by unfold SOk at h; omega
  rw [e]
  refine Ev.bind0 (of_eq _ hz) ?_
  refine Ev.bind0 (of_eq 86400000000 (by unfold I64; omega)) ?_
  refine Ev.bind (times_ev (x := m * 30 + d) (y := 86400000000) (by omega) (by omega)) ?_
  refine Ev.bind0 (of_eq u h64.2.2.2) ?_
  have w1 : Wide ((m * 30 + d) * 86400000000) := by unfold Wide; omega
  have w2 : Wide (tot m d u) := by unfold Wide; omega
  refine Ev.bind (plus_ev w1 (wide_i64 h64.2.2.2) w2) ?_
  exact Ev.now _
theorem dig_zeros {a : Int} (h0 : 0 ≤ a) (h1 : a < 6277101735386680763835789423207666416102355444464034512896) : Ev (fun k => computusref16_sign.f k false (dig a)) (if a = 0 then 0 else 1) := by
  obtain ⟨a0, a1, a2, a3, a4, a5, e, ⟨b0, b1, b2, b3, b4, b5⟩, hs⟩ := dig_form h0 h1
  rw [e]
  refine Ev.of (computusref16_sign.mono false _) (k := 7) ?_
  have r0 : rd [a0, a1, a2, a3, a4, a5] 0 = a0 := rfl
  have r1 : rd [a0, a1, a2, a3, a4, a5] 1 = a1 := rfl
  have r2 : rd [a0, a1, a2, a3, a4, a5] 2 = a2 := rfl
  have r3 : rd [a0, a1, a2, a3, a4, a5] 3 = a3 := rfl
  have r4 : rd [a0, a1, a2, a3, a4, a5] 4 = a4 := rfl
  have r5 : rd [a0, a1, a2, a3, a4, a5] 5 = a5 := rfl
  have w1 : wrap64 1 = 1 := w64 (by omega) (by omega)
  have w2 : wrap64 2 = 2 := w64 (by omega) (by omega)
  have w3 : wrap64 3 = 3 := w64 (by omega) (by omega)
  have w4 : wrap64 4 = 4 := w64 (by omega) (by omega)
  have w5 : wrap64 5 = 5 := w64 (by omega) (by omega)
  have w6 : wrap64 6 = 6 := w64 (by omega) (by omega)
  unfold computusref16_sign.f
  simp only [Bool.false_eq_true, if_false]
  have nz : ∀ {x y : Int}, 0 ≤ x → 0 ≤ y → ¬ (x = 0) → ¬ (x + 4294967296 * y = 0) := by intro x y _ _ _; omega
  by_cases g0 : a0 = 0
  · subst g0
    by_cases g1 : a1 = 0
    · subst g1
      by_cases g2 : a2 = 0
      · subst g2
        by_cases g3 : a3 = 0
        · subst g3
          by_cases g4 : a4 = 0
          · subst g4
            by_cases g5 : a5 = 0
            · subst g5
              rw [if_pos (by omega)]
              simp [computusref16_sign.l0, r0, r1, r2, r3, r4, r5, w1, w2, w3, w4, w5, w6]
            · rw [if_neg (by omega)]
              simp [computusref16_sign.l0, r0, r1, r2, r3, r4, r5, w1, w2, w3, w4, w5, w6, g5]
          · rw [if_neg (by omega)]
            simp [computusref16_sign.l0, r0, r1, r2, r3, r4, r5, w1, w2, w3, w4, w5, w6, g4]
        · rw [if_neg (by omega)]
          simp [computusref16_sign.l0, r0, r1, r2, r3, r4, r5, w1, w2, w3, w4, w5, w6, g3]
      · rw [if_neg (by omega)]
        simp [computusref16_sign.l0, r0, r1, r2, r3, r4, r5, w1, w2, w3, w4, w5, w6, g2]
    · rw [if_neg (by omega)]
      simp [computusref16_sign.l0, r0, r1, r2, r3, r4, r5, w1, w2, w3, w4, w5, w6, g1]
  · rw [if_neg (by omega)]
    simp [computusref16_sign.l0, r0, r1, r2, r3, r4, r5, w1, w2, w3, w4, w5, w6, g0]
theorem rsign_ev {x : Int} (h : Wide x) : Ev (fun k => computusref16_sign.f k (ng x) (dg x)) (sgn x 0) := by
  by_cases g : x < 0
  · rw [ng_true g, sgn_lt g]
    refine Ev.at0 fun k => ?_
    unfold computusref16_sign.f
    rw [if_pos rfl]
  · have a := ab_wide h
    rw [ng_false g]
    unfold dg
    refine Ev.cast (dig_zeros a.1 a.2) ?_
    rw [ab_pos (by omega)]
    by_cases z : x = 0
    · rw [if_pos z, sgn_eq z]
    · rw [if_neg z, sgn_gt (by omega)]
theorem signS_ev (i m d u : Int) (hu : I64 u) : Ev (fun k => span_Sign.f k i m d u) (cmpS i m d u 0 0 0 0) := by
  unfold span_Sign.f
  exact Ev.bind (cmpS_ev i m d u 0 0 0 0 hu (by unfold I64; omega)) (Ev.now _)
theorem sok_zero : SOk 0 0 0 0 := by unfold SOk; omega
end Go.Proofs.Ytfpclhkieccojaa.Civ
