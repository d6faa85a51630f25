/- What the functions of package day and of its reference answer. -/
import Derived.Test.YtgjbdojpncmmlaaQdkjbefpmfb
import Derived.Test.YtgjbdojpncmmlaaQgidmalbbah
import Derived.Test.YtgjbdojpncmmlaaQonhjbhmbep
import Derived.Test.YtgjbdojpncmmlaaQeccfklbhpc
import Derived.Test.YtgjbdojpncmmlaaQnlkipaphod
import Derived.Test.YtgjbdojpncmmlaaQnfpioekdkn
import Derived.Test.YtgjbdojpncmmlaaQdamkicidim
import Derived.Test.YtgjbdojpncmmlaaQigcnbiplja
import Derived.Test.YtgjbdojpncmmlaaQdbcmpkebch
import Derived.Test.YtgjbdojpncmmlaaQnjbodpdeli
import Derived.Test.YtgjbdojpncmmlaaQbdbhamhnfm
import Derived.Test.YtgjbdojpncmmlaaQdogbdcfeoh
import Derived.Test.YtgjbdojpncmmlaaQmjlddpkflb
import Derived.Test.YtgjbdojpncmmlaaQbghbhmeknf
import Derived.Test.YtgjbdojpncmmlaaQgbicodemee
namespace Go.Proofs.Ytgjbdojpncmmlaa.Civ
set_option linter.unusedVariables false
set_option linter.unusedSimpArgs false
open Go.RowKit Go.Proofs.YtgjbdojpncmmlaaW.PrintWords Go.Proofs.YtgjbdojpncmmlaaW.PrintLast Go.Proofs.YtgjbdojpncmmlaaW.PrintMore Go.Proofs.Ytgjbdojpncmmlaa.P
/-- A day from the year -4712 to 294276. -/
def DIn (n : Int) : Prop := -2451507 ≤ n ∧ n ≤ 106751982
instance (n : Int) : Decidable (DIn n) := inferInstanceAs (Decidable (_ ∧ _))
theorem dby_lo : dby (-4712) = -2451507 := by decide
theorem dby_hi : dby 294277 = 106751983 := by decide
theorem din_year {n y m d : Int} (h : IsDate n y m d) : (-4712 ≤ y ∧ y ≤ 294276) ↔ DIn n := by
  have g := h.year
  have a := dby_lo
  have b := dby_hi
  unfold DIn
  constructor
  · intro f
    have p := dby_far (-4712) y (by omega)
    have q := dby_far (y + 1) 294277 (by omega)
    omega
  · intro f
    constructor
    · rcases Int.lt_or_le y (-4712) with z | z
      · have p := dby_far (y + 1) (-4712) (by omega)
        omega
      · exact z
    · rcases Int.lt_or_le 294276 y with z | z
      · have p := dby_far 294277 y (by omega)
        omega
      · exact z
theorem din_can {n : Int} (h : DIn n) : CanDay n := by unfold DIn at h; unfold CanDay; omega
theorem inside_eq (n : Int) : day_inside.f n = some (decide (DIn n)) := by
  unfold day_inside.f
  by_cases hc : CanDay n
  · obtain ⟨y, m, d, h⟩ := date_of n
    rw [date_eq h hc]
    have e := din_year h
    simp only [Option.bind_some, if_true]
    by_cases g : y ≥ -4712
    · rw [if_pos g]; congr 1; apply decide_eq_decide.2; rw [← e]; omega
    · rw [if_neg g, decide_eq_false]; rw [← e]; omega
  · rw [date_no hc]
    simp only [Option.bind_some]
    rw [if_neg (by decide), decide_eq_false (fun f => hc (din_can f))]
/-- A date that can be. -/
def DR (i n : Int) : Prop := (i = 0 ∧ DIn n) ∨ ((i = -1 ∨ i = 1) ∧ n = 0)
instance (i n : Int) : Decidable (DR i n) := inferInstanceAs (Decidable (_ ∨ _))
theorem dr_fin {n : Int} : DR 0 n ↔ DIn n := by unfold DR DIn; omega
theorem dright_eq (i n : Int) : day_Right.f i n = some (decide (DR i n)) := by
  unfold day_Right.f
  simp only [Bool.and_eq_true, beq_iff_eq]
  by_cases h1 : i = -1 ∧ n = 0
  · rw [if_pos h1, decide_eq_true (show DR i n from .inr ⟨.inl h1.1, h1.2⟩)]
  · rw [if_neg h1]
    by_cases h2 : i = 1 ∧ n = 0
    · rw [if_pos h2, decide_eq_true (show DR i n from .inr ⟨.inr h2.1, h2.2⟩)]
    · rw [if_neg h2]
      by_cases h3 : i = 0
      · subst h3
        rw [if_pos rfl, inside_eq]
        simp only [Option.bind_some]
        congr 1; exact decide_eq_decide.2 dr_fin.symm
      · rw [if_neg h3, decide_eq_false (show ¬ DR i n by unfold DR; omega)]
/-- The order of two that are each infinite or not. -/
def lex (i n j m : Int) : Int := if sgn i j = 0 then sgn n m else sgn i j
def cmpD (i n j m : Int) : Int := if DR i n ∧ DR j m then lex i n j m else 0
theorem cmpD_ev (i n j m : Int) : Ev (fun k => day_Cmp.f k i n j m) (cmpD i n j m) := by
  unfold day_Cmp.f cmpD
  refine Ev.bind0 (dright_eq i n) ?_
  by_cases h : DR i n
  · refine Ev.pos (decide_eq_true h) (Ev.bind0 (dright_eq j m) (Ev.succ ?_))
    by_cases g : DR j m
    · rw [if_pos ⟨h, g⟩, decide_eq_true g]
      simp only [day_Cmp.j0, Bool.not_true, Bool.false_eq_true, if_false]
      exact Ev.bind0 (cmpi_eq i j) (Ev.bind0 (cmp64_eq n m) (Ev.bind (or_ev _ _) (Ev.now _)))
    · rw [if_neg (fun f => g f.2), decide_eq_false g]
      simp only [day_Cmp.j0, Bool.not_false, if_true]
      exact Ev.now _
  · rw [if_neg (fun f => h f.1)]
    refine Ev.neg (by rw [decide_eq_false h]; simp) (Ev.succ ?_)
    simp only [day_Cmp.j0, if_true]
    exact Ev.now _
/-- A stamp that can be. -/
def DRS (i u : Int) : Prop := (i = 0 ∧ DIn (u / 86400000000)) ∨ ((i = -1 ∨ i = 1) ∧ u = 0)
instance (i u : Int) : Decidable (DRS i u) := inferInstanceAs (Decidable (_ ∨ _))
theorem drs_fin {u : Int} : DRS 0 u ↔ DIn (u / 86400000000) := by unfold DRS DIn; omega
theorem drightS_ev (i u : Int) (hu : I64 u) : Ev (fun k => day_RightStamp.f k i u) (decide (DRS i u)) := by
  unfold day_RightStamp.f
  refine Ev.bind (Ev.at1 fun k => split_eq k u hu) ?_
  simp only [Bool.and_eq_true, beq_iff_eq]
  by_cases h1 : i = -1 ∧ u = 0
  · exact Ev.pos h1 (Ev.cast (Ev.now _) (decide_eq_true (show DRS i u from .inr ⟨.inl h1.1, h1.2⟩)).symm)
  · refine Ev.neg h1 ?_
    by_cases h2 : i = 1 ∧ u = 0
    · exact Ev.pos h2 (Ev.cast (Ev.now _) (decide_eq_true (show DRS i u from .inr ⟨.inr h2.1, h2.2⟩)).symm)
    · refine Ev.neg h2 ?_
      by_cases h3 : i = 0
      · subst h3
        refine Ev.pos rfl (Ev.bind0 (inside_eq _) (Ev.cast (Ev.now _) ?_))
        exact decide_eq_decide.2 drs_fin.symm
      · refine Ev.neg h3 (Ev.cast (Ev.now _) ?_)
        rw [decide_eq_false (show ¬ DRS i u by unfold DRS; omega)]
def ofD (i u : Int) : Int × Int × Int × Int := if DRS i u then (if i = 0 then (0, u / 86400000000, u % 86400000000, 0) else (i, 0, 0, 0)) else (0, 0, 0, 1)
theorem ofD_ev (i u : Int) (hu : I64 u) : Ev (fun k => day_Of.f k i u) (ofD i u) := by
  unfold day_Of.f ofD
  refine Ev.bind (drightS_ev i u hu) ?_
  by_cases h : DRS i u
  · rw [if_pos h]
    refine Ev.pos (decide_eq_true h) ?_
    by_cases g : i = 0
    · refine Ev.pos g ?_; rw [if_pos g]; exact Ev.bind (Ev.at1 fun k => split_eq k u hu) (Ev.now _)
    · refine Ev.neg g ?_; rw [if_neg g]; exact Ev.now _
  · rw [if_neg h]
    exact Ev.neg (by rw [decide_eq_false h]; simp) (Ev.now _)
def cmpT (i u j v : Int) : Int := if DRS i u ∧ DRS j v then lex i u j v else 0
theorem cmpT_ev (i u j v : Int) (hu : I64 u) (hv : I64 v) : Ev (fun k => day_CmpStamp.f k i u j v) (cmpT i u j v) := by
  unfold day_CmpStamp.f cmpT
  refine Ev.bind (drightS_ev i u hu) ?_
  by_cases h : DRS i u
  · refine Ev.pos (decide_eq_true h) (Ev.bind (drightS_ev j v hv) (Ev.succ ?_))
    by_cases g : DRS j v
    · rw [if_pos ⟨h, g⟩, decide_eq_true g]
      simp only [day_CmpStamp.j0, Bool.not_true, Bool.false_eq_true, if_false]
      exact Ev.bind0 (cmpi_eq i j) (Ev.bind0 (cmp64_eq u v) (Ev.bind (or_ev _ _) (Ev.now _)))
    · rw [if_neg (fun f => g f.2), decide_eq_false g]
      simp only [day_CmpStamp.j0, Bool.not_false, if_true]
      exact Ev.now _
  · rw [if_neg (fun f => h f.1)]
    refine Ev.neg (by rw [decide_eq_false h]; simp) (Ev.succ ?_)
    simp only [day_CmpStamp.j0, if_true]
    exact Ev.now _
end Go.Proofs.Ytgjbdojpncmmlaa.Civ
