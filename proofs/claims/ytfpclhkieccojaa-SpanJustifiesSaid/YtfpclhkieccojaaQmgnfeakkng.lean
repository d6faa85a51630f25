/- Days of 24 hours, months of 30 days. -/
import Derived.Test.YtfpclhkieccojaaQmjlohbmpef
import Derived.Test.YtfpclhkieccojaaQnlgncfaieh
import Derived.Test.YtfpclhkieccojaaQgcopfjplea
import Derived.Test.YtfpclhkieccojaaQalcddkcjnb
import Derived.Test.YtfpclhkieccojaaQeafcmfchom
import Derived.Test.YtfpclhkieccojaaQhndhnmlajo
import Derived.Test.YtfpclhkieccojaaQfibmdljcim
import Derived.Test.YtfpclhkieccojaaQoimnmpglbn
import Derived.Test.YtfpclhkieccojaaQfbfdmbekpk
import Derived.Test.YtfpclhkieccojaaQpcogccbpcl
import Derived.Test.YtfpclhkieccojaaQfhfaejliib
import Derived.Test.YtfpclhkieccojaaQcmeemmflga
import Derived.Test.YtfpclhkieccojaaQgnpffaanid
import Derived.Test.YtfpclhkieccojaaQjdhaoogbfm
import Derived.Test.YtfpclhkieccojaaQbhlffekofa
import Derived.Test.YtfpclhkieccojaaQehmbfliiap
import Derived.Test.YtfpclhkieccojaaQglcnddgfgg
import Derived.Test.YtfpclhkieccojaaQheffghofnf
import Derived.Test.YtfpclhkieccojaaQpmejagmdmg
import Derived.Test.YtfpclhkieccojaaQmhpoogdkgm
namespace Go.Proofs.Ytfpclhkieccojaa.Civ
set_option linter.unusedVariables false
set_option linter.unusedSimpArgs false
open Go.RowKit Go.Proofs.YtfpclhkieccojaaW.PrintWords Go.Proofs.YtfpclhkieccojaaW.PrintLast Go.Proofs.YtfpclhkieccojaaW.PrintMore Go.Proofs.Ytfpclhkieccojaa.P
def lend (hi lo unit s : Int) : Int × Int := if hi > 0 ∧ s < 0 then (hi - 1, lo + unit) else if hi < 0 ∧ s > 0 then (hi + 1, lo - unit) else (hi, lo)
theorem lend_1 {hi lo unit s : Int} (h : hi > 0) (g : s < 0) : lend hi lo unit s = (hi - 1, lo + unit) := if_pos ⟨h, g⟩
theorem lend_2 {hi lo unit s : Int} (h : hi < 0) (g : s > 0) : lend hi lo unit s = (hi + 1, lo - unit) := by
  unfold lend
  have a : ¬ (hi > 0 ∧ s < 0) := by omega
  have b : hi < 0 ∧ s > 0 := ⟨h, g⟩
  rw [if_neg a, if_pos b]
theorem lend_3 {hi lo unit s : Int} (a : ¬ (hi > 0 ∧ s < 0)) (b : ¬ (hi < 0 ∧ s > 0)) : lend hi lo unit s = (hi, lo) := by
  unfold lend
  rw [if_neg a, if_neg b]
theorem lend_ev {hi lo unit s : Int} (h1 : -4611686018427387904 ≤ hi ∧ hi ≤ 4611686018427387904) (h2 : -4611686018427387904 ≤ lo ∧ lo ≤ 4611686018427387904) (h3 : 0 ≤ unit ∧ unit ≤ 86400000000) :
    Ev (fun k => span_lend.f k hi lo unit s) (lend hi lo unit s) := by
  unfold span_lend.f
  by_cases g : hi > 0
  · refine Ev.pos g ?_
    refine Ev.succ ?_
    by_cases g2 : s < 0
    · rw [lend_1 g g2, decide_eq_true g2]
      simp only [span_lend.j0, if_true]
      rw [w64 (by omega) (by omega), w64 (by omega) (by omega)]
      exact Ev.now _
    · rw [lend_3 (by omega) (by omega), decide_eq_false g2]
      simp only [span_lend.j0, Bool.false_eq_true, if_false]
      exact Ev.neg (by omega) (Ev.now _)
  · refine Ev.neg g ?_
    refine Ev.succ ?_
    simp only [span_lend.j0, Bool.false_eq_true, if_false]
    by_cases g2 : hi < 0
    · refine Ev.pos g2 ?_
      by_cases g3 : s > 0
      · refine Ev.pos g3 ?_
        rw [lend_2 g2 g3, w64 (by omega) (by omega), w64 (by omega) (by omega)]
        exact Ev.now _
      · refine Ev.neg g3 ?_
        rw [lend_3 (by omega) (by omega)]
        exact Ev.now _
    · refine Ev.neg g2 ?_
      rw [lend_3 (by omega) (by omega)]
      exact Ev.now _
theorem lend_bd (hi lo unit s : Int) (h3 : 0 ≤ unit) : hi - 1 ≤ (lend hi lo unit s).1 ∧ (lend hi lo unit s).1 ≤ hi + 1 ∧ lo - unit ≤ (lend hi lo unit s).2 ∧ (lend hi lo unit s).2 ≤ lo + unit := by
  unfold lend
  split
  · exact ⟨by show hi - 1 ≤ hi - 1; omega, by show hi - 1 ≤ hi + 1; omega, by show lo - unit ≤ lo + unit; omega, by show lo + unit ≤ lo + unit; omega⟩
  · split
    · exact ⟨by show hi - 1 ≤ hi + 1; omega, by show hi + 1 ≤ hi + 1; omega, by show lo - unit ≤ lo - unit; omega, by show lo - unit ≤ lo + unit; omega⟩
    · exact ⟨by show hi - 1 ≤ hi; omega, by show hi ≤ hi + 1; omega, by show lo - unit ≤ lo; omega, by show lo ≤ lo + unit; omega⟩
/-- The days and what is left of one, once the hours are days. -/
def jD (d u : Int) : Int := d + Int.tdiv u 86400000000
def jR (u : Int) : Int := Int.tmod u 86400000000
def j1 (m d u : Int) : Int × Int := lend (m + Int.tdiv (jD d u) 30) (Int.tmod (jD d u) 30) 30 (sgn (tot 0 (Int.tmod (jD d u) 30) (jR u)) 0)
def j2 (m d u : Int) : Int × Int := lend (j1 m d u).2 (jR u) 86400000000 (sgn (jR u) 0)
def justS (i m d u : Int) : Int × Int × Int × Int × Int :=
  if SOk i m d u then (if i = 0 then (if -2147483647 ≤ jD d u ∧ jD d u ≤ 2147483647 then mkS (j1 m d u).1 (j2 m d u).1 (j2 m d u).2 else bad 10) else sp i m d u) else bad 1
theorem tdiv_us {u : Int} (h : I64 u) : -106751992 ≤ Int.tdiv u 86400000000 ∧ Int.tdiv u 86400000000 ≤ 106751992 := by
  unfold I64 at h
  rcases Int.lt_or_le u 0 with g | g
  · rw [td_neg (by omega)]; omega
  · rw [td_pos g]; omega
theorem tdiv_30 {x : Int} (h : -2147483647 ≤ x ∧ x ≤ 2147483647) : -71582789 ≤ Int.tdiv x 30 ∧ Int.tdiv x 30 ≤ 71582789 := by
  rcases Int.lt_or_le x 0 with g | g
  · rw [td_neg (by omega)]; omega
  · rw [td_pos g]; omega
theorem jR_bd (u : Int) : -86400000000 < jR u ∧ jR u < 86400000000 := tmod_bd u (by decide)
theorem sok_rest (D u : Int) : SOk 0 0 (Int.tmod D 30) (jR u) := by
  have a := tmod_bd D (b := 30) (by decide)
  have b := jR_bd u
  unfold SOk
  omega
theorem sign_rest (D u : Int) : cmpS 0 0 (Int.tmod D 30) (jR u) 0 0 0 0 = sgn (tot 0 (Int.tmod D 30) (jR u)) 0 := by
  unfold cmpS
  rw [if_pos ⟨sok_rest D u, sok_zero⟩]
  rfl
theorem justS_ev (i m d u : Int) (hu : I64 u) : Ev (fun k => span_Justify.f k i m d u) (justS i m d u) := by
  unfold span_Justify.f justS
  refine Ev.bind0 (right_eq i m d u hu) ?_
  by_cases h1 : SOk i m d u
  · rw [decide_eq_true h1, if_pos h1]
    refine Ev.pos rfl ?_
    by_cases h2 : i = 0
    · refine Ev.pos h2 ?_
      rw [if_pos h2]
      have hm : -2147483647 ≤ m ∧ m ≤ 2147483647 ∧ -2147483647 ≤ d ∧ d ≤ 2147483647 := by unfold SOk at h1; omega
      have b1 := tdiv_us hu
      have eD : wrap64 (d + wrap64 (Int.tdiv u 86400000000)) = jD d u := by
        rw [w64 (x := Int.tdiv u 86400000000) (by omega) (by omega), w64 (by omega) (by omega)]; rfl
      rw [eD]
      refine Ev.bind0 (within_eq (jD d u)) ?_
      by_cases h3 : -2147483647 ≤ jD d u ∧ jD d u ≤ 2147483647
      · rw [decide_eq_true h3, if_pos h3]
        refine Ev.pos rfl ?_
        have b2 := tdiv_30 h3
        have b3 := tmod_bd (jD d u) (b := 30) (by decide)
        have b4 := jR_bd u
        have eM : wrap64 (m + wrap64 (Int.tdiv (jD d u) 30)) = m + Int.tdiv (jD d u) 30 := by
          rw [w64 (x := Int.tdiv (jD d u) 30) (by omega) (by omega), w64 (by omega) (by omega)]
        rw [eM]
        refine Ev.bind (signS_ev 0 0 (Int.tmod (jD d u) 30) (jR u) (by unfold I64; omega)) ?_
        rw [sign_rest]
        refine Ev.bind (lend_ev (by omega) (by omega) (by omega)) ?_
        have b5 := lend_bd (m + Int.tdiv (jD d u) 30) (Int.tmod (jD d u) 30) 30 (sgn (tot 0 (Int.tmod (jD d u) 30) (jR u)) 0) (by omega)
        refine Ev.bind0 (cmp64_eq (jR u) 0) ?_
        refine Ev.bind (lend_ev (hi := (j1 m d u).2) (lo := jR u) (by unfold j1; omega) (by omega) (by omega)) ?_
        have b6 := lend_bd (j1 m d u).2 (jR u) 86400000000 (sgn (jR u) 0) (by omega)
        refine Ev.bind0 (make_eq _ _ _ (by unfold I64; omega)) ?_
        exact Ev.now _
      · rw [decide_eq_false h3, if_neg h3]
        exact Ev.neg (by simp) (Ev.now _)
    · refine Ev.neg h2 ?_
      rw [if_neg h2]
      exact Ev.now _
  · rw [decide_eq_false h1, if_neg h1]
    exact Ev.neg (by simp) (Ev.now _)
theorem sgn_neg_iff {x : Int} : sgn x 0 < 0 ↔ x < 0 := by
  rcases Int.lt_trichotomy x 0 with g | g | g
  · rw [sgn_lt g]; omega
  · rw [sgn_eq g]; omega
  · rw [sgn_gt g]; omega
theorem sgn_pos_iff {x : Int} : sgn x 0 > 0 ↔ x > 0 := by
  rcases Int.lt_trichotomy x 0 with g | g | g
  · rw [sgn_lt g]; omega
  · rw [sgn_eq g]; omega
  · rw [sgn_gt g]; omega
theorem rj3_ev {D m r : Int} (hD : -4611686018427387904 ≤ D ∧ D ≤ 4611686018427387904) (hr : -86400000000 < r ∧ r < 86400000000) :
    Ev (fun k => computusref16_Justify.j3 k D r m) (mkS m (lend D r 86400000000 (sgn r 0)).1 (lend D r 86400000000 (sgn r 0)).2) := by
  refine Ev.succ ?_
  simp only [computusref16_Justify.j3]
  have s1 := sgn_neg_iff (x := r)
  have s2 := sgn_pos_iff (x := r)
  by_cases g : D > 0
  · refine Ev.pos g ?_
    refine Ev.succ ?_
    by_cases g2 : r < 0
    · rw [decide_eq_true g2]
      simp only [computusref16_Justify.j4, if_true]
      rw [lend_1 g (s1.2 g2), w64 (x := D - 1) (by omega) (by omega), w64 (x := r + 86400000000) (by omega) (by omega)]
      refine Ev.neg (by omega) ?_
      exact Ev.bind0 (rmake_eq _ _ _) (Ev.now _)
    · rw [decide_eq_false g2]
      simp only [computusref16_Justify.j4, Bool.false_eq_true, if_false]
      rw [lend_3 (by omega) (by omega)]
      refine Ev.neg (by omega) ?_
      exact Ev.bind0 (rmake_eq _ _ _) (Ev.now _)
  · refine Ev.neg g ?_
    refine Ev.succ ?_
    simp only [computusref16_Justify.j4, Bool.false_eq_true, if_false]
    by_cases g2 : D < 0
    · refine Ev.pos g2 ?_
      by_cases g3 : r > 0
      · rw [lend_2 g2 (s2.2 g3), w64 (x := D + 1) (by omega) (by omega), w64 (x := r - 86400000000) (by omega) (by omega)]
        refine Ev.pos g3 ?_
        exact Ev.bind0 (rmake_eq _ _ _) (Ev.now _)
      · rw [lend_3 (by omega) (by omega)]
        refine Ev.neg g3 ?_
        exact Ev.bind0 (rmake_eq _ _ _) (Ev.now _)
    · rw [lend_3 (by omega) (by omega)]
      refine Ev.neg g2 ?_
      exact Ev.bind0 (rmake_eq _ _ _) (Ev.now _)
theorem rj1_ev {m d r s : Int} (hm : -4611686018427387904 ≤ m ∧ m ≤ 4611686018427387904) (hd : -30 < d ∧ d < 30) (hr : -86400000000 < r ∧ r < 86400000000) {res : Int × Int × Int × Int × Int}
    (hs : ¬ (m > 0 ∧ s < 0)) (h : Ev (fun k => computusref16_Justify.j3 k (lend m d 30 s).2 r (lend m d 30 s).1) res) : Ev (fun k => computusref16_Justify.j1 k d r m s) res := by
  refine Ev.succ ?_
  simp only [computusref16_Justify.j1]
  by_cases g : m < 0
  · refine Ev.pos g ?_
    refine Ev.succ ?_
    by_cases g2 : s > 0
    · rw [lend_2 g g2] at h
      rw [decide_eq_true g2]
      simp only [computusref16_Justify.j2, if_true]
      rw [w64 (x := d - 30) (by omega) (by omega), w64 (x := m + 1) (by omega) (by omega)]
      exact h
    · rw [lend_3 (by omega) (by omega)] at h
      rw [decide_eq_false g2]
      simp only [computusref16_Justify.j2, Bool.false_eq_true, if_false]
      exact h
  · rw [lend_3 (by omega) (by omega)] at h
    refine Ev.neg g ?_
    refine Ev.succ ?_
    simp only [computusref16_Justify.j2, Bool.false_eq_true, if_false]
    exact h
theorem rjust_mid {m d r s : Int} (hm : -4611686018427387904 ≤ m ∧ m ≤ 4611686018427387904) (hd : -30 < d ∧ d < 30) (hr : -86400000000 < r ∧ r < 86400000000) {res : Int × Int × Int × Int × Int}
    (h : Ev (fun k => computusref16_Justify.j3 k (lend m d 30 s).2 r (lend m d 30 s).1) res) :
    Ev (fun k => if m > 0 then computusref16_Justify.j0 k d r m s (decide (s < 0)) else computusref16_Justify.j0 k d r m s false) res := by
  by_cases g : m > 0
  · refine Ev.pos g ?_
    refine Ev.succ ?_
    by_cases g2 : s < 0
    · rw [decide_eq_true g2]
      simp only [computusref16_Justify.j0, if_true]
      rw [lend_1 g g2] at h
      rw [w64 (x := d + 30) (by omega) (by omega), w64 (x := m - 1) (by omega) (by omega)]
      refine Ev.succ ?_
      simp only [computusref16_Justify.j1]
      refine Ev.neg (by omega) ?_
      refine Ev.succ ?_
      simp only [computusref16_Justify.j2, Bool.false_eq_true, if_false]
      exact h
    · rw [decide_eq_false g2]
      simp only [computusref16_Justify.j0, Bool.false_eq_true, if_false]
      exact rj1_ev hm hd hr (fun f => g2 f.2) h
  · refine Ev.neg g ?_
    refine Ev.succ ?_
    simp only [computusref16_Justify.j0, Bool.false_eq_true, if_false]
    exact rj1_ev hm hd hr (fun f => g f.1) h
theorem rjustS_ev (i m d u : Int) (hu : I64 u) : Ev (fun k => computusref16_Justify.f k i m d u) (justS i m d u) := by
  unfold computusref16_Justify.f justS
  refine Ev.bind0 (rright_eq i m d u) ?_
  by_cases h1 : SOk i m d u
  · rw [decide_eq_true h1, if_pos h1]
    refine Ev.pos rfl ?_
    by_cases h2 : i = 0
    · refine Ev.pos h2 ?_
      rw [if_pos h2]
      have hm : -2147483647 ≤ m ∧ m ≤ 2147483647 ∧ -2147483647 ≤ d ∧ d ≤ 2147483647 := by unfold SOk at h1; omega
      have b1 := tdiv_us hu
      have eD : wrap64 (d + wrap64 (Int.tdiv u 86400000000)) = jD d u := by
        rw [w64 (x := Int.tdiv u 86400000000) (by omega) (by omega), w64 (by omega) (by omega)]; rfl
      rw [eD]
      refine Ev.bind0 (rwithin_eq (jD d u) 2147483647 (by omega) (by omega)) ?_
      by_cases h3 : -2147483647 ≤ jD d u ∧ jD d u ≤ 2147483647
      · rw [decide_eq_true h3, if_pos h3]
        refine Ev.pos rfl ?_
        have b2 := tdiv_30 h3
        have b3 := tmod_bd (jD d u) (b := 30) (by decide)
        have b4 := jR_bd u
        have eM : wrap64 (m + wrap64 (Int.tdiv (jD d u) 30)) = m + Int.tdiv (jD d u) 30 := by
          rw [w64 (x := Int.tdiv (jD d u) 30) (by omega) (by omega), w64 (by omega) (by omega)]
        rw [eM]
        refine Ev.bind (rlong_ev (sok_rest (jD d u) u)) ?_
        have t := tot_bd (sok_rest (jD d u) u)
        refine Ev.bind (rsign_ev (x := tot 0 (Int.tmod (jD d u) 30) (jR u)) (by unfold Wide; omega)) ?_
        refine rjust_mid (m := m + Int.tdiv (jD d u) 30) (by omega) b3 b4 ?_
        have b5 := lend_bd (m + Int.tdiv (jD d u) 30) (Int.tmod (jD d u) 30) 30 (sgn (tot 0 (Int.tmod (jD d u) 30) (jR u)) 0) (by omega)
        exact rj3_ev (D := (j1 m d u).2) (m := (j1 m d u).1) (r := jR u) (by unfold j1; omega) b4
      · rw [decide_eq_false h3, if_neg h3]
        exact Ev.neg (by simp) (Ev.now _)
    · refine Ev.neg h2 ?_
      rw [if_neg h2]
      exact Ev.now _
  · rw [decide_eq_false h1, if_neg h1]
    exact Ev.neg (by simp) (Ev.now _)
end Go.Proofs.Ytfpclhkieccojaa.Civ
