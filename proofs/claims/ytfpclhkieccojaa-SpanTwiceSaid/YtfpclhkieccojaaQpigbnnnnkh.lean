/- What the functions of package span and of its reference answer. -/
import Derived.Test.YtfpclhkieccojaaQjibfjjnoko
import Derived.Test.YtfpclhkieccojaaQfemcomiepb
import Derived.Test.YtfpclhkieccojaaQoibjdabgmp
import Derived.Test.YtfpclhkieccojaaQeafcmfchom
import Derived.Test.YtfpclhkieccojaaQhndhnmlajo
import Derived.Test.YtfpclhkieccojaaQgfhnlelnpa
import Derived.Test.YtfpclhkieccojaaQlglohacllf
import Derived.Test.YtfpclhkieccojaaQcjdphadijg
import Derived.Test.YtfpclhkieccojaaQhekkifcfbn
import Derived.Test.YtfpclhkieccojaaQgnpffaanid
import Derived.Test.YtfpclhkieccojaaQbablidljdn
import Derived.Test.YtfpclhkieccojaaQlgoghoapfb
namespace Go.Proofs.Ytfpclhkieccojaa.Civ
set_option linter.unusedVariables false
set_option linter.unusedSimpArgs false
open Go.RowKit Go.Proofs.YtfpclhkieccojaaW.PrintWords Go.Proofs.YtfpclhkieccojaaW.PrintLast Go.Proofs.YtfpclhkieccojaaW.PrintMore Go.Proofs.Ytfpclhkieccojaa.P
/-- An interval that can be: its Inf, months, days, microseconds. -/
def SOk (i m d u : Int) : Prop :=
  (i = 0 ∧ -2147483647 ≤ m ∧ m ≤ 2147483647 ∧ -2147483647 ≤ d ∧ d ≤ 2147483647 ∧ -9223372036854775807 ≤ u ∧ u ≤ 9223372036854775807) ∨ ((i = -1 ∨ i = 1) ∧ m = 0 ∧ d = 0 ∧ u = 0)
instance (i m d u : Int) : Decidable (SOk i m d u) := inferInstanceAs (Decidable (_ ∨ _))
theorem within_eq (n : Int) : span_within.f n = some (decide (-2147483647 ≤ n ∧ n ≤ 2147483647)) := by
  unfold span_within.f
  by_cases h : n ≥ -2147483647
  · rw [if_pos h]; congr 1; apply decide_eq_decide.2; omega
  · rw [if_neg h, decide_eq_false (by omega)]
theorem zeros_iff (m d u : Int) : ((m == 0 && (d == 0 && (u == 0))) = true) ↔ (m = 0 ∧ d = 0 ∧ u = 0) := by simp
theorem right_eq (i m d u : Int) (hu : I64 u) : span_Right.f i m d u = some (decide (SOk i m d u)) := by
  unfold span_Right.f
  by_cases h : i = 0
  · rw [if_pos h, neg_eq u hu, within_eq, within_eq]
    simp only [Option.bind_some, decide_eq_true_eq]
    have e : ((out (-u)).2 == 0) = decide (-9223372036854775807 ≤ u) := by
      unfold I64 at hu
      by_cases g : -9223372036854775807 ≤ u
      · rw [decide_eq_true g, out_in (by unfold I64; omega)]; rfl
      · rw [decide_eq_false g, out_no (by unfold I64; omega)]; rfl
    unfold I64 at hu
    by_cases h1 : -2147483647 ≤ m ∧ m ≤ 2147483647
    · rw [if_pos h1]
      by_cases h2 : -2147483647 ≤ d ∧ d ≤ 2147483647
      · rw [if_pos h2, e]; congr 1; apply decide_eq_decide.2; unfold SOk; omega
      · rw [if_neg h2, decide_eq_false (by unfold SOk; omega)]
    · rw [if_neg h1, decide_eq_false (by unfold SOk; omega)]
  · rw [if_neg h]
    by_cases h1 : m = 0 ∧ d = 0 ∧ u = 0
    · rw [if_pos ((zeros_iff m d u).2 h1)]
      by_cases h2 : i ≥ -1
      · rw [if_pos h2]; congr 1; apply decide_eq_decide.2; unfold SOk; omega
      · rw [if_neg h2, decide_eq_false (by unfold SOk; omega)]
    · rw [if_neg (fun f => h1 ((zeros_iff m d u).1 f)), decide_eq_false (by unfold SOk; omega)]
/-- An interval and no error; or an error alone. -/
def sp (i m d u : Int) : Int × Int × Int × Int × Int := (i, m, d, u, 0)
def bad (e : Int) : Int × Int × Int × Int × Int := (0, 0, 0, 0, e)
def mkS (m d u : Int) : Int × Int × Int × Int × Int := if SOk 0 m d u then sp 0 m d u else bad 10
theorem make_eq (m d u : Int) (hu : I64 u) : span_Make.f m d u = some (mkS m d u) := by
  unfold span_Make.f mkS
  rw [right_eq 0 m d u hu]
  simp only [Option.bind_some, decide_eq_true_eq]
  split <;> rfl
theorem sok_i64 {i m d u : Int} (h : SOk i m d u) : I64 i ∧ I64 m ∧ I64 d ∧ I64 u := by unfold SOk at h; unfold I64; omega
def addS (i m d u j n e v : Int) : Int × Int × Int × Int × Int :=
  if SOk i m d u ∧ SOk j n e v then (if i * j < 0 then bad 10 else if i = 0 then (if j = 0 then mkS (m + n) (d + e) (u + v) else sp j n e v) else sp i m d u) else bad 1
theorem mx3 (x : Int) (h : 0 ≤ x) : mx (mx 0 0) x = x := by unfold mx; split <;> split <;> omega
theorem parts_add_eq (i m d u j n e v : Int) (h1 : SOk i m d u) (h2 : SOk j n e v) : span_parts_num_Add.f i m d u j n e v = some (mkS (m + n) (d + e) (u + v)) := by
  obtain ⟨_, a1, a2, a3⟩ := sok_i64 h1
  obtain ⟨_, b1, b2, b3⟩ := sok_i64 h2
  unfold span_parts_num_Add.f
  rw [add_eq m n a1 b1, add_eq d e a2 b2, add_eq u v a3 b3]
  have h1' := h1
  have h2' := h2
  unfold SOk at h1' h2'
  simp only [Option.bind_some]
  rw [out_in (z := m + n) (by unfold I64; omega), out_in (z := d + e) (by unfold I64; omega)]
  by_cases g : I64 (u + v)
  · rw [out_in g, mx3 _ (by omega), if_pos rfl, make_eq _ _ _ g]
    rfl
  · rw [out_no g, mx3 _ (by omega), if_neg (by omega)]
    unfold mkS
    rw [if_neg (by unfold SOk; unfold I64 at g; omega)]
    rfl
theorem addS_ev (i m d u j n e v : Int) (hi : I64 i) (hj : I64 j) (hu : I64 u) (hv : I64 v) : Ev (fun k => span_Add.f k i m d u j n e v) (addS i m d u j n e v) := by
  unfold span_Add.f addS
  refine Ev.bind0 (right_eq i m d u hu) ?_
  by_cases h1 : SOk i m d u
  · rw [decide_eq_true h1]
    refine Ev.pos rfl ?_
    refine Ev.bind0 (right_eq j n e v hv) ?_
    by_cases h2 : SOk j n e v
    · rw [decide_eq_true h2, if_pos ⟨h1, h2⟩]
      refine Ev.succ ?_
      simp only [span_Add.j0, Bool.not_true, Bool.false_eq_true, if_false]
      have hw : wrap64 (i * j) = i * j := by
        have a : i = -1 ∨ i = 0 ∨ i = 1 := by unfold SOk at h1; omega
        rcases a with rfl | rfl | rfl
        · rw [w64_of]; unfold SOk at h2; unfold I64; omega
        · rw [Int.zero_mul]; exact w64 (by omega) (by omega)
        · rw [Int.one_mul, w64_of hj]
      rw [hw]
      by_cases h3 : i * j < 0
      · refine Ev.pos h3 ?_; rw [if_pos h3]; exact Ev.now _
      · refine Ev.neg h3 ?_
        rw [if_neg h3]
        by_cases h4 : i = 0
        · refine Ev.pos h4 ?_
          rw [if_pos h4]
          by_cases h5 : j = 0
          · refine Ev.pos h5 ?_
            rw [if_pos h5]
            exact Ev.bind0 (parts_add_eq i m d u j n e v h1 h2) (Ev.now _)
          · refine Ev.neg h5 ?_; rw [if_neg h5]; exact Ev.now _
        · refine Ev.neg h4 ?_; rw [if_neg h4]; exact Ev.now _
    · rw [decide_eq_false h2, if_neg (fun f => h2 f.2)]
      refine Ev.succ ?_
      simp only [span_Add.j0, Bool.not_false, if_true]
      exact Ev.now _
  · rw [decide_eq_false h1, if_neg (fun f => h1 f.1)]
    refine Ev.neg (by simp) ?_
    refine Ev.succ ?_
    simp only [span_Add.j0, if_true]
    exact Ev.now _
end Go.Proofs.Ytfpclhkieccojaa.Civ
