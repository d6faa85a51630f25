/- What the functions of package day and of its reference answer. -/
import Derived.Test.YtgjbdojpncmmlaaQlgkehbolkb
import Derived.Test.YtgjbdojpncmmlaaQbjoegdnofm
import Derived.Test.YtgjbdojpncmmlaaQichagbehpd
import Derived.Test.YtgjbdojpncmmlaaQnjbjiibdlc
import Derived.Test.YtgjbdojpncmmlaaQjimpfgihbj
import Derived.Test.YtgjbdojpncmmlaaQfhmfffjpae
import Derived.Test.YtgjbdojpncmmlaaQdlhliafmpo
import Derived.Test.YtgjbdojpncmmlaaQingomajhlh
namespace Go.Proofs.Ytgjbdojpncmmlaa.Civ
set_option linter.unusedVariables false
set_option linter.unusedSimpArgs false
open Go.RowKit Go.Proofs.YtgjbdojpncmmlaaW.PrintWords Go.Proofs.YtgjbdojpncmmlaaW.PrintLast Go.Proofs.YtgjbdojpncmmlaaW.PrintMore Go.Proofs.Ytgjbdojpncmmlaa.P
/-- A day from the year -4712 to 294276. -/
def DIn (n : Int) : Prop := -2451507 ≤ n ∧ n ≤ 106751982
instance (n : Int) : Decidable (DIn n) := inferInstanceAs (Decidable (_ ∧ _))
theorem dby_lo : dby (-4712) = -2451507 := by decide
theorem dby_hi : dby 294277 = 106751983 := by decide
theorem din_year {n y m d : Int} (h : IsDate n y m d) : (-4712 ≤ y ∧ y ≤ 294276) ↔ DIn n := by
  have g := h.year
  have a := dby_lo
  have b := dby_hi
  unfold DIn
  constructor
  · intro f
    have p := dby_far (-4712) y (by omega)
    have q := dby_far (y + 1) 294277 (by omega)
    omega
  · intro f
    constructor
    · rcases Int.lt_or_le y (-4712) with z | z
      · have p := dby_far (y + 1) (-4712) (by omega)
        omega
      · exact z
    · rcases Int.lt_or_le 294276 y with z | z
      · have p := dby_far 294277 y (by omega)
        omega
      · exact z
theorem din_can {n : Int} (h : DIn n) : CanDay n := by unfold DIn at h; unfold CanDay; omega
theorem din_i64 {n : Int} (h : DIn n) : I64 n := by unfold DIn at h; unfold I64; omega
theorem inside_eq (n : Int) : day_inside.f n = some (decide (DIn n)) := by
  unfold day_inside.f
  by_cases hc : CanDay n
  · obtain ⟨y, m, d, h⟩ := date_of n
    rw [date_eq h hc]
    have e := din_year h
    simp only [Option.bind_some, if_true]
    by_cases g : y ≥ -4712
    · rw [if_pos g]; congr 1; apply decide_eq_decide.2; rw [← e]; omega
    · rw [if_neg g, decide_eq_false]; rw [← e]; omega
  · rw [date_no hc]
    simp only [Option.bind_some]
    rw [if_neg (by decide), decide_eq_false (fun f => hc (din_can f))]
theorem rinside_ev (n : Int) : Ev (fun k => computusref15_inside.f k n) (decide (DIn n)) := by
  unfold computusref15_inside.f
  by_cases hc : CanDay n
  · obtain ⟨y, m, d, h⟩ := date_of n
    have e := din_year h
    refine Ev.bind (rdate_ev h hc) ?_
    refine Ev.pos rfl ?_
    by_cases g : y ≥ -4712
    · refine Ev.pos g (Ev.cast (Ev.now _) ?_)
      apply decide_eq_decide.2; rw [← e]; show y ≤ 294276 ↔ _; omega
    · refine Ev.neg g (Ev.cast (Ev.now _) ?_)
      rw [decide_eq_false]; rw [← e]; omega
  · refine Ev.bind (rdate_no hc) ?_
    refine Ev.neg (by decide) (Ev.cast (Ev.now _) ?_)
    rw [decide_eq_false (fun f => hc (din_can f))]
/-- A date that can be. -/
def DR (i n : Int) : Prop := (i = 0 ∧ DIn n) ∨ ((i = -1 ∨ i = 1) ∧ n = 0)
instance (i n : Int) : Decidable (DR i n) := inferInstanceAs (Decidable (_ ∨ _))
theorem dr_fin {n : Int} : DR 0 n ↔ DIn n := by unfold DR DIn; omega
theorem dright_eq (i n : Int) : day_Right.f i n = some (decide (DR i n)) := by
  unfold day_Right.f
  simp only [Bool.and_eq_true, beq_iff_eq]
  by_cases h1 : i = -1 ∧ n = 0
  · rw [if_pos h1, decide_eq_true (show DR i n from .inr ⟨.inl h1.1, h1.2⟩)]
  · rw [if_neg h1]
    by_cases h2 : i = 1 ∧ n = 0
    · rw [if_pos h2, decide_eq_true (show DR i n from .inr ⟨.inr h2.1, h2.2⟩)]
    · rw [if_neg h2]
      by_cases h3 : i = 0
      · subst h3
        rw [if_pos rfl, inside_eq]
        simp only [Option.bind_some]
        congr 1; exact decide_eq_decide.2 dr_fin.symm
      · rw [if_neg h3, decide_eq_false (show ¬ DR i n by unfold DR; omega)]
theorem rdright_ev (i n : Int) : Ev (fun k => computusref15_Right.f k i n) (decide (DR i n)) := by
  unfold computusref15_Right.f
  have e : (n == 0) = decide (n = 0) := rfl
  by_cases h : i = 0
  · subst h
    refine Ev.pos rfl (Ev.bind (rinside_ev n) (Ev.cast (Ev.now _) ?_))
    exact decide_eq_decide.2 dr_fin.symm
  · refine Ev.neg h ?_
    by_cases h1 : i = -1
    · refine Ev.pos h1 (Ev.cast (Ev.now _) ?_)
      rw [e]; apply decide_eq_decide.2; unfold DR; omega
    · refine Ev.neg h1 ?_
      by_cases h2 : i = 1
      · refine Ev.pos h2 (Ev.cast (Ev.now _) ?_)
        rw [e]; apply decide_eq_decide.2; unfold DR; omega
      · refine Ev.neg h2 (Ev.cast (Ev.now _) ?_)
        rw [decide_eq_false (show ¬ DR i n by unfold DR; omega)]
/-- The order of two that are each infinite or not. -/
def lex (i n j m : Int) : Int := if sgn i j = 0 then sgn n m else sgn i j
theorem rorder_ev (i n j m : Int) : Ev (fun k => computusref15_order.f k i j n m) (lex i n j m) := by
  unfold computusref15_order.f lex
  rcases Int.lt_trichotomy i j with h | h | h
  · rw [sgn_lt h, if_neg (by decide)]
    refine Ev.pos h (Ev.succ ?_)
    simp only [computusref15_order.j0, if_true]
    exact Ev.now _
  · rw [sgn_eq h, if_pos rfl]
    refine Ev.neg (by omega) (Ev.pos h (Ev.succ ?_))
    rcases Int.lt_trichotomy n m with g | g | g
    · rw [sgn_lt g, decide_eq_true g]
      simp only [computusref15_order.j0, if_true]
      exact Ev.now _
    · rw [sgn_eq g, decide_eq_false (by omega)]
      simp only [computusref15_order.j0, Bool.false_eq_true, if_false]
      exact Ev.neg (by omega) (Ev.neg (by omega) (Ev.now _))
    · rw [sgn_gt g, decide_eq_false (by omega)]
      simp only [computusref15_order.j0, Bool.false_eq_true, if_false]
      exact Ev.neg (by omega) (Ev.pos g (Ev.now _))
  · rw [sgn_gt h, if_neg (by decide)]
    refine Ev.neg (by omega) (Ev.neg (by omega) (Ev.succ ?_))
    simp only [computusref15_order.j0, Bool.false_eq_true, if_false]
    exact Ev.pos h (Ev.now _)
/-- A stamp that can be. -/
def DRS (i u : Int) : Prop := (i = 0 ∧ DIn (u / 86400000000)) ∨ ((i = -1 ∨ i = 1) ∧ u = 0)
instance (i u : Int) : Decidable (DRS i u) := inferInstanceAs (Decidable (_ ∨ _))
theorem drs_fin {u : Int} : DRS 0 u ↔ DIn (u / 86400000000) := by unfold DRS DIn; omega
theorem drightS_ev (i u : Int) (hu : I64 u) : Ev (fun k => day_RightStamp.f k i u) (decide (DRS i u)) := by
  unfold day_RightStamp.f
  refine Ev.bind (Ev.at1 fun k => split_eq k u hu) ?_
  simp only [Bool.and_eq_true, beq_iff_eq]
  by_cases h1 : i = -1 ∧ u = 0
  · exact Ev.pos h1 (Ev.cast (Ev.now _) (decide_eq_true (show DRS i u from .inr ⟨.inl h1.1, h1.2⟩)).symm)
  · refine Ev.neg h1 ?_
    by_cases h2 : i = 1 ∧ u = 0
    · exact Ev.pos h2 (Ev.cast (Ev.now _) (decide_eq_true (show DRS i u from .inr ⟨.inr h2.1, h2.2⟩)).symm)
    · refine Ev.neg h2 ?_
      by_cases h3 : i = 0
      · subst h3
        refine Ev.pos rfl (Ev.bind0 (inside_eq _) (Ev.cast (Ev.now _) ?_))
        exact decide_eq_decide.2 drs_fin.symm
      · refine Ev.neg h3 (Ev.cast (Ev.now _) ?_)
        rw [decide_eq_false (show ¬ DRS i u by unfold DRS; omega)]
theorem rsplit_ev (u : Int) (hu : I64 u) : Ev (fun k => computusref01_Split.f k u) (u / 86400000000, u % 86400000000) := by
  have hb : I64 86400000000 := by unfold I64; omega
  unfold computusref01_Split.f
  refine Ev.bind (rdiv64_ev u 86400000000 hu hb (by decide)) ?_
  refine Ev.bind (rmod64_ev u 86400000000 hu hb (by decide)) ?_
  refine Ev.cast (Ev.now _) ?_
  rw [fl_pos (by decide), md_pos (by decide), out_in (by unfold I64 at *; omega)]
theorem rdrightS_ev (i u : Int) (hu : I64 u) : Ev (fun k => computusref15_RightStamp.f k i u) (decide (DRS i u)) := by
  unfold computusref15_RightStamp.f
  have e : (u == 0) = decide (u = 0) := rfl
  by_cases h : i = 0
  · subst h
    refine Ev.pos rfl (Ev.bind (rsplit_ev u hu) (Ev.bind (rinside_ev _) (Ev.cast (Ev.now _) ?_)))
    exact decide_eq_decide.2 drs_fin.symm
  · refine Ev.neg h ?_
    by_cases h1 : i = -1
    · refine Ev.pos h1 (Ev.cast (Ev.now _) ?_)
      rw [e]; apply decide_eq_decide.2; unfold DRS; omega
    · refine Ev.neg h1 ?_
      by_cases h2 : i = 1
      · refine Ev.pos h2 (Ev.cast (Ev.now _) ?_)
        rw [e]; apply decide_eq_decide.2; unfold DRS; omega
      · refine Ev.neg h2 (Ev.cast (Ev.now _) ?_)
        rw [decide_eq_false (show ¬ DRS i u by unfold DRS; omega)]
def ofD (i u : Int) : Int × Int × Int × Int := if DRS i u then (if i = 0 then (0, u / 86400000000, u % 86400000000, 0) else (i, 0, 0, 0)) else (0, 0, 0, 1)
theorem ofD_ev (i u : Int) (hu : I64 u) : Ev (fun k => day_Of.f k i u) (ofD i u) := by
  unfold day_Of.f ofD
  refine Ev.bind (drightS_ev i u hu) ?_
  by_cases h : DRS i u
  · rw [if_pos h]
    refine Ev.pos (decide_eq_true h) ?_
    by_cases g : i = 0
    · refine Ev.pos g ?_; rw [if_pos g]; exact Ev.bind (Ev.at1 fun k => split_eq k u hu) (Ev.now _)
    · refine Ev.neg g ?_; rw [if_neg g]; exact Ev.now _
  · rw [if_neg h]
    exact Ev.neg (by rw [decide_eq_false h]; simp) (Ev.now _)
theorem rofD_ev (i u : Int) (hu : I64 u) : Ev (fun k => computusref15_Of.f k i u) (ofD i u) := by
  unfold computusref15_Of.f ofD
  refine Ev.bind (rdrightS_ev i u hu) ?_
  by_cases h : DRS i u
  · rw [if_pos h]
    refine Ev.pos (decide_eq_true h) ?_
    by_cases g : i = 0
    · refine Ev.pos g ?_; rw [if_pos g]; exact Ev.bind (rsplit_ev u hu) (Ev.now _)
    · refine Ev.neg g ?_; rw [if_neg g]; exact Ev.now _
  · rw [if_neg h]
    exact Ev.neg (by rw [decide_eq_false h]; simp) (Ev.now _)
def cmpT (i u j v : Int) : Int := if DRS i u ∧ DRS j v then lex i u j v else 0
theorem cmpT_ev (i u j v : Int) (hu : I64 u) (hv : I64 v) : Ev (fun k => day_CmpStamp.f k i u j v) (cmpT i u j v) := by
  unfold day_CmpStamp.f cmpT
  refine Ev.bind (drightS_ev i u hu) ?_
  by_cases h : DRS i u
  · refine Ev.pos (decide_eq_true h) (Ev.bind (drightS_ev j v hv) (Ev.succ ?_))
    by_cases g : DRS j v
    · rw [if_pos ⟨h, g⟩, decide_eq_true g]
      simp only [day_CmpStamp.j0, Bool.not_true, Bool.false_eq_true, if_false]
      exact Ev.bind0 (cmpi_eq i j) (Ev.bind0 (cmp64_eq u v) (Ev.bind (or_ev _ _) (Ev.now _)))
    · rw [if_neg (fun f => g f.2), decide_eq_false g]
      simp only [day_CmpStamp.j0, Bool.not_false, if_true]
      exact Ev.now _
  · rw [if_neg (fun f => h f.1)]
    refine Ev.neg (by rw [decide_eq_false h]; simp) (Ev.succ ?_)
    simp only [day_CmpStamp.j0, if_true]
    exact Ev.now _
theorem rcmpT_ev (i u j v : Int) (hu : I64 u) (hv : I64 v) : Ev (fun k => computusref15_CmpStamp.f k i u j v) (cmpT i u j v) := by
  unfold computusref15_CmpStamp.f cmpT
  refine Ev.bind (rdrightS_ev i u hu) ?_
  by_cases h : DRS i u
  · refine Ev.pos (decide_eq_true h) (Ev.bind (rdrightS_ev j v hv) ?_)
    by_cases g : DRS j v
    · rw [if_pos ⟨h, g⟩]
      exact Ev.pos (decide_eq_true g) (Ev.bind (rorder_ev i u j v) (Ev.now _))
    · rw [if_neg (fun f => g f.2)]
      exact Ev.neg (by rw [decide_eq_false g]; simp) (Ev.now _)
  · rw [if_neg (fun f => h f.1)]
    exact Ev.neg (by rw [decide_eq_false h]; simp) (Ev.now _)
/-- A date and a time of its day as a stamp. -/
def stampD (i n t : Int) : Int × Int × Int :=
  if DR i n ∧ 0 ≤ t ∧ t ≤ 86400000000 then (if i = 0 then (if DIn ((n * 86400000000 + t) / 86400000000) then (0, n * 86400000000 + t, 0) else (0, 0, 10)) else (i, 0, 0)) else (0, 0, 1)
theorem stampD_j0 (i n t : Int) (h : DR i n ∧ 0 ≤ t ∧ t ≤ 86400000000) : Ev (fun k => day_Stamp.j0 k t false i n) (stampD i n t) := by
  obtain ⟨h, h0, h1⟩ := h
  unfold stampD
  rw [if_pos ⟨h, h0, h1⟩]
  refine Ev.succ ?_
  simp only [day_Stamp.j0, Bool.false_eq_true, if_false]
  by_cases g : i = 0
  · rw [if_pos g]
    have hn : DIn n := by subst g; exact dr_fin.1 h
    have b : -211810204800000000 ≤ n * 86400000000 ∧ n * 86400000000 ≤ 9223371244800000000 := by unfold DIn at hn; omega
    refine Ev.pos g (Ev.bind (Ev.at1 fun k => mul_eq k n 86400000000 (din_i64 hn) (by unfold I64; omega)) ?_)
    rw [out_in (z := n * 86400000000) (by unfold I64; omega)]
    refine Ev.pos rfl (Ev.bind0 (add_eq _ t (by unfold I64; omega) (by unfold I64; omega)) ?_)
    rw [out_in (z := n * 86400000000 + t) (by unfold I64; omega)]
    refine Ev.pos rfl (Ev.bind (drightS_ev 0 _ (by unfold I64; omega)) ?_)
    by_cases z : DIn ((n * 86400000000 + t) / 86400000000)
    · rw [if_pos z]
      exact Ev.pos (decide_eq_true (.inl ⟨rfl, z⟩)) (Ev.now _)
    · rw [if_neg z]
      refine Ev.neg ?_ (Ev.now _)
      rw [decide_eq_false]
      · simp
      · intro f
        rcases f with f | f
        · exact z f.2
        · omega
  · refine Ev.neg g ?_
    rw [if_neg g]
    exact Ev.now _
theorem stampD_ev (i n t : Int) : Ev (fun k => day_Stamp.f k i n t) (stampD i n t) := by
  unfold day_Stamp.f
  refine Ev.bind0 (dright_eq i n) ?_
  have no : ¬ (DR i n ∧ 0 ≤ t ∧ t ≤ 86400000000) → Ev (fun k => day_Stamp.j0 k t true i n) (stampD i n t) := by
    intro f
    unfold stampD
    rw [if_neg f]
    refine Ev.succ ?_
    simp only [day_Stamp.j0, if_true]
    exact Ev.now _
  by_cases h : DR i n
  · refine Ev.pos (decide_eq_true h) ?_
    by_cases h0 : t < 0
    · exact Ev.pos h0 (no (by omega))
    · refine Ev.neg h0 ?_
      by_cases h1 : t > 86400000000
      · rw [decide_eq_true h1]; exact no (by omega)
      · rw [decide_eq_false h1]; exact stampD_j0 i n t ⟨h, by omega, by omega⟩
  · exact Ev.neg (by rw [decide_eq_false h]; simp) (no (fun f => h f.1))
theorem rstampD_j0 (i n t : Int) (h : DR i n ∧ 0 ≤ t ∧ t ≤ 86400000000) : Ev (fun k => computusref15_Stamp.j0 k t false i n) (stampD i n t) := by
  obtain ⟨h, h0, h1⟩ := h
  unfold stampD
  rw [if_pos ⟨h, h0, h1⟩]
  refine Ev.succ ?_
  simp only [computusref15_Stamp.j0, Bool.false_eq_true, if_false]
  by_cases g : i = 0
  · rw [if_pos g]
    have hn : DIn n := by subst g; exact dr_fin.1 h
    have b : -211810204800000000 ≤ n * 86400000000 ∧ n * 86400000000 ≤ 9223371244800000000 := by unfold DIn at hn; omega
    refine Ev.pos g ?_
    by_cases y : t = 86400000000
    · refine Ev.pos y ?_
      have e1 : wrap64 (n + 1) = n + 1 := by unfold DIn at hn; rw [w64 (by omega) (by omega)]
      have e2 : wrap64 (wrap64 ((n + 1) * 86400000000)) = n * 86400000000 + t := by
        rw [w64 (x := (n + 1) * 86400000000) (by omega) (by omega), w64 (by omega) (by omega)]; omega
      have e3 : (n * 86400000000 + t) / 86400000000 = n + 1 := by omega
      rw [e1, e2, e3]
      refine Ev.bind (rinside_ev _) ?_
      by_cases z : DIn (n + 1)
      · rw [if_pos z]; exact Ev.pos (decide_eq_true z) (Ev.now _)
      · rw [if_neg z]; exact Ev.neg (by rw [decide_eq_false z]; simp) (Ev.now _)
    · refine Ev.neg y ?_
      have e2 : wrap64 (wrap64 (n * 86400000000) + t) = n * 86400000000 + t := by
        rw [w64 (x := n * 86400000000) (by omega) (by omega), w64 (by omega) (by omega)]
      have e3 : (n * 86400000000 + t) / 86400000000 = n := by omega
      rw [e2, e3, if_pos hn]
      exact Ev.bind (rinside_ev _) (Ev.pos (decide_eq_true hn) (Ev.now _))
  · refine Ev.neg g ?_
    rw [if_neg g]
    exact Ev.now _
theorem rstampD_ev (i n t : Int) : Ev (fun k => computusref15_Stamp.f k i n t) (stampD i n t) := by
  unfold computusref15_Stamp.f
  refine Ev.bind (rdright_ev i n) ?_
  have no : ¬ (DR i n ∧ 0 ≤ t ∧ t ≤ 86400000000) → Ev (fun k => computusref15_Stamp.j0 k t true i n) (stampD i n t) := by
    intro f
    unfold stampD
    rw [if_neg f]
    refine Ev.succ ?_
    simp only [computusref15_Stamp.j0, if_true]
    exact Ev.now _
  by_cases h : DR i n
  · refine Ev.pos (decide_eq_true h) ?_
    by_cases h0 : t < 0
    · exact Ev.pos h0 (no (by omega))
    · refine Ev.neg h0 ?_
      by_cases h1 : t > 86400000000
      · rw [decide_eq_true h1]; exact no (by omega)
      · rw [decide_eq_false h1]; exact rstampD_j0 i n t ⟨h, by omega, by omega⟩
  · exact Ev.neg (by rw [decide_eq_false h]; simp) (no (fun f => h f.1))
theorem startD_ev (i n : Int) : Ev (fun k => day_Start.f k i n) (stampD i n 0) := by
  unfold day_Start.f
  exact Ev.bind (stampD_ev i n 0) (Ev.now _)
theorem rstartD_ev (i n : Int) : Ev (fun k => computusref15_Start.f k i n) (stampD i n 0) := by
  unfold computusref15_Start.f
  exact Ev.bind (rstampD_ev i n 0) (Ev.now _)
end Go.Proofs.Ytgjbdojpncmmlaa.Civ
namespace Go.Proofs.Ytgjbdojpncmmlaa.Civ
set_option linter.unusedVariables false
set_option linter.unusedSimpArgs false
open Go.RowKit Go.Proofs.Ytgjbdojpncmmlaa.P Go.Proofs.YtgjbdojpncmmlaaW.PrintWords Go.Proofs.YtgjbdojpncmmlaaW.PrintLast
theorem known_ev : Ev (fun k => computuslaw15_known.f k) true := Ev.of computuslaw15_known.mono (k := 12) (by decide +kernel)
theorem known_end : Ev (fun k => (computuslaw15_known.f k).bind fun t => some t) true := Ev.bind known_ev (Ev.now _)
end Go.Proofs.Ytgjbdojpncmmlaa.Civ
namespace Go.Proofs.Ytgjbdojpncmmlaa.Pure
set_option linter.unusedVariables false
set_option linter.unusedSimpArgs false
open Go.RowKit Go.Proofs.Ytgjbdojpncmmlaa.P Go.Proofs.YtgjbdojpncmmlaaW.PrintWords Go.Proofs.YtgjbdojpncmmlaaW.PrintLast Go.Proofs.Ytgjbdojpncmmlaa.Civ
theorem DayStamps : computuslaw15_DayStamps.Pure := by
  intro i n t j u l v _ _ _ _ hu _ hv
  have hu := i64_of_wf hu
  have hv := i64_of_wf hv
  refine Ev.rounds ?_
  unfold computuslaw15_DayStamps.f
  refine Ev.bind (stampD_ev i n t) (Ev.bind (rstampD_ev i n t) (Ev.bind (startD_ev i n) (Ev.bind (rstartD_ev i n) (Ev.bind (ofD_ev j u hu) (Ev.bind (rofD_ev j u hu) ?_)))))
  simp only [beq_self_eq_true, Bool.and_self, if_true]
  refine Ev.bind (drightS_ev j u hu) (Ev.bind (rdrightS_ev j u hu) ?_)
  simp only [beq_self_eq_true, if_true]
  refine Ev.bind (cmpT_ev j u l v hu hv) (Ev.bind (rcmpT_ev j u l v hu hv) ?_)
  simp only [if_true]
  exact known_end
end Go.Proofs.Ytgjbdojpncmmlaa.Pure
