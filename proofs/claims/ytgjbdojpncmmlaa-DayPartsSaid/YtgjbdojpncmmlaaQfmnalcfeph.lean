/- What the functions of package day and of its reference answer. -/
import Derived.Test.YtgjbdojpncmmlaaQanfobienjh
import Derived.Test.YtgjbdojpncmmlaaQpbhbbcmnip
import Derived.Test.YtgjbdojpncmmlaaQiboeomopel
import Derived.Test.YtgjbdojpncmmlaaQljchoicndo
import Derived.Test.YtgjbdojpncmmlaaQeccfklbhpc
import Derived.Test.YtgjbdojpncmmlaaQbjmgmekjbo
import Derived.Test.YtgjbdojpncmmlaaQeajldolgfp
import Derived.Test.YtgjbdojpncmmlaaQpoegllaakk
import Derived.Test.YtgjbdojpncmmlaaQnjbodpdeli
import Derived.Test.YtgjbdojpncmmlaaQckpclafhif
import Derived.Test.YtgjbdojpncmmlaaQnlkipaphod
import Derived.Test.YtgjbdojpncmmlaaQbghbhmeknf
import Derived.Test.YtgjbdojpncmmlaaQpbjbngjfan
import Derived.Test.YtgjbdojpncmmlaaQhhhipiekgl
import Derived.Test.YtgjbdojpncmmlaaQifgcgofhhh
import Derived.Test.YtgjbdojpncmmlaaQbllbfbmgea
import Derived.Test.YtgjbdojpncmmlaaQmojninoicn
import Derived.Test.YtgjbdojpncmmlaaQgbicodemee
namespace Go.Proofs.Ytgjbdojpncmmlaa.Civ
set_option linter.unusedVariables false
set_option linter.unusedSimpArgs false
open Go.RowKit Go.Proofs.YtgjbdojpncmmlaaW.PrintWords Go.Proofs.YtgjbdojpncmmlaaW.PrintLast Go.Proofs.YtgjbdojpncmmlaaW.PrintMore Go.Proofs.Ytgjbdojpncmmlaa.P
/-- A day from the year -4712 to 294276. -/
def DIn (n : Int) : Prop := -2451507 ≤ n ∧ n ≤ 106751982
instance (n : Int) : Decidable (DIn n) := inferInstanceAs (Decidable (_ ∧ _))
theorem dby_lo : dby (-4712) = -2451507 := by decide
theorem dby_hi : dby 294277 = 106751983 := by decide
theorem din_year {n y m d : Int} (h : IsDate n y m d) : (-4712 ≤ y ∧ y ≤ 294276) ↔ DIn n := by
  have g := h.year
  have a := dby_lo
  have b := dby_hi
  unfold DIn
  constructor
  · intro f
    have p := dby_far (-4712) y (by omega)
    have q := dby_far (y + 1) 294277 (by omega)
    omega
  · intro f
    constructor
    · rcases Int.lt_or_le y (-4712) with z | z
      · have p := dby_far (y + 1) (-4712) (by omega)
        omega
      · exact z
    · rcases Int.lt_or_le 294276 y with z | z
      · have p := dby_far 294277 y (by omega)
        omega
      · exact z
theorem din_can {n : Int} (h : DIn n) : CanDay n := by unfold DIn at h; unfold CanDay; omega
theorem inside_eq (n : Int) : day_inside.f n = some (decide (DIn n)) := by
  unfold day_inside.f
  by_cases hc : CanDay n
  · obtain ⟨y, m, d, h⟩ := date_of n
    rw [date_eq h hc]
    have e := din_year h
    simp only [Option.bind_some, if_true]
    by_cases g : y ≥ -4712
    · rw [if_pos g]; congr 1; apply decide_eq_decide.2; rw [← e]; omega
    · rw [if_neg g, decide_eq_false]; rw [← e]; omega
  · rw [date_no hc]
    simp only [Option.bind_some]
    rw [if_neg (by decide), decide_eq_false (fun f => hc (din_can f))]
theorem rinside_ev (n : Int) : Ev (fun k => computusref15_inside.f k n) (decide (DIn n)) := by
  unfold computusref15_inside.f
  by_cases hc : CanDay n
  · obtain ⟨y, m, d, h⟩ := date_of n
    have e := din_year h
    refine Ev.bind (rdate_ev h hc) ?_
    refine Ev.pos rfl ?_
    by_cases g : y ≥ -4712
    · refine Ev.pos g (Ev.cast (Ev.now _) ?_)
      apply decide_eq_decide.2; rw [← e]; show y ≤ 294276 ↔ _; omega
    · refine Ev.neg g (Ev.cast (Ev.now _) ?_)
      rw [decide_eq_false]; rw [← e]; omega
  · refine Ev.bind (rdate_no hc) ?_
    refine Ev.neg (by decide) (Ev.cast (Ev.now _) ?_)
    rw [decide_eq_false (fun f => hc (din_can f))]
/-- A date or an error. -/
def made (n : Int) : Int × Int × Int := if DIn n then (0, n, 0) else (0, 0, 10)
def madeE (n e : Int) : Int × Int × Int := if e = 0 then made n else (0, 0, 10)
theorem finite_eq (n e : Int) : day_finite.f n e = some (madeE n e) := by
  unfold day_finite.f madeE made
  by_cases h : e = 0
  · rw [if_pos h, if_pos h, inside_eq]
    simp only [Option.bind_some, decide_eq_true_eq]
    split <;> rfl
  · rw [if_neg h, if_neg h]
def makeD (y m d : Int) : Int × Int × Int := if DateOk y m d then made (dnum y m d) else (0, 0, 10)
theorem makeD_eq (y m d : Int) : day_Make.f y m d = some (makeD y m d) := by
  unfold day_Make.f makeD
  rw [days_eq]
  simp only [Option.bind_some]
  rw [finite_eq]
  by_cases h : DateOk y m d
  · rw [if_pos h, if_pos h]; rfl
  · rw [if_neg h, if_neg h]; rfl
theorem rmakeD_ev (y m d : Int) : Ev (fun k => computusref15_Make.f k y m d) (makeD y m d) := by
  unfold computusref15_Make.f makeD
  refine Ev.bind (rdays_ev y m d) ?_
  by_cases h : DateOk y m d
  · rw [if_pos h, if_pos h]
    refine Ev.pos rfl (Ev.bind (rinside_ev _) ?_)
    unfold made
    by_cases g : DIn (dnum y m d)
    · rw [if_pos g]; exact Ev.pos (decide_eq_true g) (Ev.now _)
    · rw [if_neg g]; exact Ev.neg (by rw [decide_eq_false g]; simp) (Ev.now _)
  · rw [if_neg h, if_neg h]
    exact Ev.neg (by decide) (Ev.now _)
/-- A date that can be. -/
def DR (i n : Int) : Prop := (i = 0 ∧ DIn n) ∨ ((i = -1 ∨ i = 1) ∧ n = 0)
instance (i n : Int) : Decidable (DR i n) := inferInstanceAs (Decidable (_ ∨ _))
theorem dr_fin {n : Int} : DR 0 n ↔ DIn n := by unfold DR DIn; omega
theorem dright_eq (i n : Int) : day_Right.f i n = some (decide (DR i n)) := by
  unfold day_Right.f
  simp only [Bool.and_eq_true, beq_iff_eq]
  by_cases h1 : i = -1 ∧ n = 0
  · rw [if_pos h1, decide_eq_true (show DR i n from .inr ⟨.inl h1.1, h1.2⟩)]
  · rw [if_neg h1]
    by_cases h2 : i = 1 ∧ n = 0
    · rw [if_pos h2, decide_eq_true (show DR i n from .inr ⟨.inr h2.1, h2.2⟩)]
    · rw [if_neg h2]
      by_cases h3 : i = 0
      · subst h3
        rw [if_pos rfl, inside_eq]
        simp only [Option.bind_some]
        congr 1; exact decide_eq_decide.2 dr_fin.symm
      · rw [if_neg h3, decide_eq_false (show ¬ DR i n by unfold DR; omega)]
theorem rdright_ev (i n : Int) : Ev (fun k => computusref15_Right.f k i n) (decide (DR i n)) := by
  unfold computusref15_Right.f
  have e : (n == 0) = decide (n = 0) := rfl
  by_cases h : i = 0
  · subst h
    refine Ev.pos rfl (Ev.bind (rinside_ev n) (Ev.cast (Ev.now _) ?_))
    exact decide_eq_decide.2 dr_fin.symm
  · refine Ev.neg h ?_
    by_cases h1 : i = -1
    · refine Ev.pos h1 (Ev.cast (Ev.now _) ?_)
      rw [e]; apply decide_eq_decide.2; unfold DR; omega
    · refine Ev.neg h1 ?_
      by_cases h2 : i = 1
      · refine Ev.pos h2 (Ev.cast (Ev.now _) ?_)
        rw [e]; apply decide_eq_decide.2; unfold DR; omega
      · refine Ev.neg h2 (Ev.cast (Ev.now _) ?_)
        rw [decide_eq_false (show ¬ DR i n by unfold DR; omega)]
theorem dparts_ev (i n : Int) : ∃ r, day_Parts.f i n = some r ∧ Ev (fun k => computusref15_Parts.f k i n) r := by
  by_cases h : DR i n
  · by_cases g : i = 0
    · have hn : DIn n := by subst g; exact dr_fin.1 h
      obtain ⟨y, m, d, hd⟩ := date_of n
      refine ⟨(y, m, d, 0), ?_, ?_⟩
      · unfold day_Parts.f
        rw [dright_eq, decide_eq_true h]
        simp only [Option.bind_some, if_true]
        rw [if_pos g, date_eq hd (din_can hn)]; rfl
      · unfold computusref15_Parts.f
        refine Ev.bind (rdright_ev i n) (Ev.pos (decide_eq_true h) (Ev.pos g (Ev.bind (rdate_ev hd (din_can hn)) (Ev.now _))))
    · refine ⟨(0, 0, 0, 10), ?_, ?_⟩
      · unfold day_Parts.f
        rw [dright_eq, decide_eq_true h]
        simp only [Option.bind_some, if_true]
        rw [if_neg g]
      · unfold computusref15_Parts.f
        exact Ev.bind (rdright_ev i n) (Ev.pos (decide_eq_true h) (Ev.neg g (Ev.now _)))
  · refine ⟨(0, 0, 0, 1), ?_, ?_⟩
    · unfold day_Parts.f
      rw [dright_eq, decide_eq_false h]
      rfl
    · unfold computusref15_Parts.f
      exact Ev.bind (rdright_ev i n) (Ev.neg (by rw [decide_eq_false h]; simp) (Ev.now _))
end Go.Proofs.Ytgjbdojpncmmlaa.Civ
