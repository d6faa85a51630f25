/- What the functions of package span and of its reference answer. -/
import Derived.Test.YtfpclhkieccojaaQmjlohbmpef
import Derived.Test.YtfpclhkieccojaaQnlgncfaieh
import Derived.Test.YtfpclhkieccojaaQgcopfjplea
import Derived.Test.YtfpclhkieccojaaQalcddkcjnb
import Derived.Test.YtfpclhkieccojaaQeafcmfchom
import Derived.Test.YtfpclhkieccojaaQhndhnmlajo
import Derived.Test.YtfpclhkieccojaaQfibmdljcim
import Derived.Test.YtfpclhkieccojaaQoimnmpglbn
import Derived.Test.YtfpclhkieccojaaQfbfdmbekpk
import Derived.Test.YtfpclhkieccojaaQpcogccbpcl
import Derived.Test.YtfpclhkieccojaaQfhfaejliib
import Derived.Test.YtfpclhkieccojaaQcmeemmflga
import Derived.Test.YtfpclhkieccojaaQgnpffaanid
import Derived.Test.YtfpclhkieccojaaQjdhaoogbfm
import Derived.Test.YtfpclhkieccojaaQbhlffekofa
import Derived.Test.YtfpclhkieccojaaQehmbfliiap
import Derived.Test.YtfpclhkieccojaaQmpnnhdfopl
namespace Go.Proofs.Ytfpclhkieccojaa.Civ
set_option linter.unusedVariables false
set_option linter.unusedSimpArgs false
open Go.RowKit Go.Proofs.YtfpclhkieccojaaW.PrintWords Go.Proofs.YtfpclhkieccojaaW.PrintLast Go.Proofs.YtfpclhkieccojaaW.PrintMore Go.Proofs.Ytfpclhkieccojaa.P
/-- An interval that can be: its Inf, months, days, microseconds. -/
def SOk (i m d u : Int) : Prop :=
  (i = 0 ∧ -2147483647 ≤ m ∧ m ≤ 2147483647 ∧ -2147483647 ≤ d ∧ d ≤ 2147483647 ∧ -9223372036854775807 ≤ u ∧ u ≤ 9223372036854775807) ∨ ((i = -1 ∨ i = 1) ∧ m = 0 ∧ d = 0 ∧ u = 0)
instance (i m d u : Int) : Decidable (SOk i m d u) := inferInstanceAs (Decidable (_ ∨ _))
theorem within_eq (n : Int) : span_within.f n = some (decide (-2147483647 ≤ n ∧ n ≤ 2147483647)) := by
  unfold span_within.f
  by_cases h : n ≥ -2147483647
  · rw [if_pos h]; congr 1; apply decide_eq_decide.2; omega
  · rw [if_neg h, decide_eq_false (by omega)]
theorem rwithin_eq (n L : Int) (h0 : 0 ≤ L) (h1 : L ≤ 9223372036854775807) : computusref16_within.f n L = some (decide (-L ≤ n ∧ n ≤ L)) := by
  unfold computusref16_within.f
  rw [w64 (by omega) (by omega)]
  by_cases h : n ≥ -L
  · rw [if_pos h]; congr 1; apply decide_eq_decide.2; omega
  · rw [if_neg h, decide_eq_false (by omega)]
theorem zeros_iff (m d u : Int) : ((m == 0 && (d == 0 && (u == 0))) = true) ↔ (m = 0 ∧ d = 0 ∧ u = 0) := by simp
theorem right_eq (i m d u : Int) (hu : I64 u) : span_Right.f i m d u = some (decide (SOk i m d u)) := by
  unfold span_Right.f
  by_cases h : i = 0
  · rw [if_pos h, neg_eq u hu, within_eq, within_eq]
    simp only [Option.bind_some, decide_eq_true_eq]
    have e : ((out (-u)).2 == 0) = decide (-9223372036854775807 ≤ u) := by
      unfold I64 at hu
      by_cases g : -9223372036854775807 ≤ u
      · rw [decide_eq_true g, out_in (by unfold I64; omega)]; rfl
      · rw [decide_eq_false g, out_no (by unfold I64; omega)]; rfl
    unfold I64 at hu
    by_cases h1 : -2147483647 ≤ m ∧ m ≤ 2147483647
    · rw [if_pos h1]
      by_cases h2 : -2147483647 ≤ d ∧ d ≤ 2147483647
      · rw [if_pos h2, e]; congr 1; apply decide_eq_decide.2; unfold SOk; omega
      · rw [if_neg h2, decide_eq_false (by unfold SOk; omega)]
    · rw [if_neg h1, decide_eq_false (by unfold SOk; omega)]
  · rw [if_neg h]
    by_cases h1 : m = 0 ∧ d = 0 ∧ u = 0
    · rw [if_pos ((zeros_iff m d u).2 h1)]
      by_cases h2 : i ≥ -1
      · rw [if_pos h2]; congr 1; apply decide_eq_decide.2; unfold SOk; omega
      · rw [if_neg h2, decide_eq_false (by unfold SOk; omega)]
    · rw [if_neg (fun f => h1 ((zeros_iff m d u).1 f)), decide_eq_false (by unfold SOk; omega)]
theorem rright_eq (i m d u : Int) : computusref16_Right.f i m d u = some (decide (SOk i m d u)) := by
  unfold computusref16_Right.f
  rw [rwithin_eq m _ (by omega) (by omega), rwithin_eq d _ (by omega) (by omega), rwithin_eq u _ (by omega) (by omega)]
  simp only [Option.bind_some, decide_eq_true_eq]
  have e : (u == 0) = decide (u = 0) := rfl
  by_cases h : i = 0
  · rw [if_pos h]
    by_cases h1 : -2147483647 ≤ m ∧ m ≤ 2147483647
    · rw [if_pos h1]
      by_cases h2 : -2147483647 ≤ d ∧ d ≤ 2147483647
      · rw [if_pos h2]; congr 1; apply decide_eq_decide.2; unfold SOk; omega
      · rw [if_neg h2, decide_eq_false (by unfold SOk; omega)]
    · rw [if_neg h1, decide_eq_false (by unfold SOk; omega)]
  · rw [if_neg h, e]
    have three : ∀ (j : Int), (j = -1 ∨ j = 1) → i = j → (if m = 0 then (if d = 0 then some (decide (u = 0)) else some false) else some false) = some (decide (SOk i m d u)) := by
      intro j hj hi
      by_cases h1 : m = 0
      · rw [if_pos h1]
        by_cases h2 : d = 0
        · rw [if_pos h2]; congr 1; apply decide_eq_decide.2; unfold SOk; omega
        · rw [if_neg h2, decide_eq_false (by unfold SOk; omega)]
      · rw [if_neg h1, decide_eq_false (by unfold SOk; omega)]
    by_cases h1 : i = -1
    · rw [if_pos h1]; exact three (-1) (.inl rfl) h1
    · rw [if_neg h1]
      by_cases h2 : i = 1
      · rw [if_pos h2]; exact three 1 (.inr rfl) h2
      · rw [if_neg h2, decide_eq_false (by unfold SOk; omega)]
/-- An interval and no error; or an error alone. -/
def sp (i m d u : Int) : Int × Int × Int × Int × Int := (i, m, d, u, 0)
def bad (e : Int) : Int × Int × Int × Int × Int := (0, 0, 0, 0, e)
def mkS (m d u : Int) : Int × Int × Int × Int × Int := if SOk 0 m d u then sp 0 m d u else bad 10
theorem make_eq (m d u : Int) (hu : I64 u) : span_Make.f m d u = some (mkS m d u) := by
  unfold span_Make.f mkS
  rw [right_eq 0 m d u hu]
  simp only [Option.bind_some, decide_eq_true_eq]
  split <;> rfl
theorem made_eq (m d u : Int) : computusref16_made.f m 0 d 0 u 0 = some (mkS m d u) := by
  unfold computusref16_made.f mkS
  rw [if_pos rfl, if_pos rfl, if_pos rfl, rright_eq]
  simp only [Option.bind_some, decide_eq_true_eq]
  split <;> rfl
theorem rmake_eq (m d u : Int) : computusref16_Make.f m d u = some (mkS m d u) := by
  unfold computusref16_Make.f
  rw [made_eq]; rfl
theorem sok_i64 {i m d u : Int} (h : SOk i m d u) : I64 i ∧ I64 m ∧ I64 d ∧ I64 u := by unfold SOk at h; unfold I64; omega
end Go.Proofs.Ytfpclhkieccojaa.Civ
