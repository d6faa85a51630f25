/- What the functions of package day and of its reference answer. -/
import Derived.Test.YthkmckmfgglafaaGreatQjmgefpchnn
import Derived.Test.YthkmckmfgglafaaGreatQcmcaaafphb
import Derived.Test.YthkmckmfgglafaaGreatQdofiagjpmj
import Derived.Test.YthkmckmfgglafaaGreatQpmddhagiao
import Derived.Test.YthkmckmfgglafaaGreatQmkafekppgk
import Derived.Test.YthkmckmfgglafaaGreatQllglempoik
import Derived.Test.YthkmckmfgglafaaGreatQifdpkpnkbf
namespace Go.Proofs.YthkmckmfgglafaaGreat.Civ
set_option linter.unusedVariables false
set_option linter.unusedSimpArgs false
open Go.RowKit Go.Proofs.YthkmckmfgglafaaGreatW.PrintWords Go.Proofs.YthkmckmfgglafaaGreatW.PrintLast Go.Proofs.YthkmckmfgglafaaGreatW.PrintMore Go.Proofs.YthkmckmfgglafaaGreat.P
/-- A day from the year -4712 to 294276. -/
def DIn (n : Int) : Prop := -2451507 ≤ n ∧ n ≤ 106751982
instance (n : Int) : Decidable (DIn n) := inferInstanceAs (Decidable (_ ∧ _))
theorem dby_lo : dby (-4712) = -2451507 := by decide
theorem dby_hi : dby 294277 = 106751983 := by decide
theorem din_year {n y m d : Int} (h : IsDate n y m d) : (-4712 ≤ y ∧ y ≤ 294276) ↔ DIn n := by
  have g := h.year
  have a := dby_lo
  have b := dby_hi
  unfold DIn
  constructor
  · intro f
    have p := dby_far (-4712) y (by omega)
    have q := dby_far (y + 1) 294277 (by omega)
    omega
  · intro f
    constructor
    · rcases Int.lt_or_le y (-4712) with z | z
      · have p := dby_far (y + 1) (-4712) (by omega)
        omega
      · exact z
    · rcases Int.lt_or_le 294276 y with z | z
      · have p := dby_far 294277 y (by omega)
        omega
      · exact z
theorem din_can {n : Int} (h : DIn n) : CanDay n := by unfold DIn at h; unfold CanDay; omega
theorem inside_eq (n : Int) : day_inside.f n = some (decide (DIn n)) := by
  unfold day_inside.f
  by_cases hc : CanDay n
  · obtain ⟨y, m, d, h⟩ := date_of n
    rw [date_eq h hc]
    have e := din_year h
    simp only [Option.bind_some, if_true]
    by_cases g : y ≥ -4712
    · rw [if_pos g]; congr 1; apply decide_eq_decide.2; rw [← e]; omega
    · rw [if_neg g, decide_eq_false]; rw [← e]; omega
  · rw [date_no hc]
    simp only [Option.bind_some]
    rw [if_neg (by decide), decide_eq_false (fun f => hc (din_can f))]
theorem rinside_ev (n : Int) : Ev (fun k => computusref15_inside.f k n) (decide (DIn n)) := by
  unfold computusref15_inside.f
  by_cases hc : CanDay n
  · obtain ⟨y, m, d, h⟩ := date_of n
    have e := din_year h
    refine Ev.bind (rdate_ev h hc) ?_
    refine Ev.pos rfl ?_
    by_cases g : y ≥ -4712
    · refine Ev.pos g (Ev.cast (Ev.now _) ?_)
      apply decide_eq_decide.2; rw [← e]; show y ≤ 294276 ↔ _; omega
    · refine Ev.neg g (Ev.cast (Ev.now _) ?_)
      rw [decide_eq_false]; rw [← e]; omega
  · refine Ev.bind (rdate_no hc) ?_
    refine Ev.neg (by decide) (Ev.cast (Ev.now _) ?_)
    rw [decide_eq_false (fun f => hc (din_can f))]
/-- A date or an error. -/
def made (n : Int) : Int × Int × Int := if DIn n then (0, n, 0) else (0, 0, 10)
def makeD (y m d : Int) : Int × Int × Int := if DateOk y m d then made (dnum y m d) else (0, 0, 10)
theorem rmakeD_ev (y m d : Int) : Ev (fun k => computusref15_Make.f k y m d) (makeD y m d) := by
  unfold computusref15_Make.f makeD
  refine Ev.bind (rdays_ev y m d) ?_
  by_cases h : DateOk y m d
  · rw [if_pos h, if_pos h]
    refine Ev.pos rfl (Ev.bind (rinside_ev _) ?_)
    unfold made
    by_cases g : DIn (dnum y m d)
    · rw [if_pos g]; exact Ev.pos (decide_eq_true g) (Ev.now _)
    · rw [if_neg g]; exact Ev.neg (by rw [decide_eq_false g]; simp) (Ev.now _)
  · rw [if_neg h, if_neg h]
    exact Ev.neg (by decide) (Ev.now _)
/-- A date that can be. -/
def DR (i n : Int) : Prop := (i = 0 ∧ DIn n) ∨ ((i = -1 ∨ i = 1) ∧ n = 0)
instance (i n : Int) : Decidable (DR i n) := inferInstanceAs (Decidable (_ ∨ _))
theorem dr_fin {n : Int} : DR 0 n ↔ DIn n := by unfold DR DIn; omega
theorem dright_eq (i n : Int) : day_Right.f i n = some (decide (DR i n)) := by
  unfold day_Right.f
  simp only [Bool.and_eq_true, beq_iff_eq]
  by_cases h1 : i = -1 ∧ n = 0
  · rw [if_pos h1, decide_eq_true (show DR i n from .inr ⟨.inl h1.1, h1.2⟩)]
  · rw [if_neg h1]
    by_cases h2 : i = 1 ∧ n = 0
    · rw [if_pos h2, decide_eq_true (show DR i n from .inr ⟨.inr h2.1, h2.2⟩)]
    · rw [if_neg h2]
      by_cases h3 : i = 0
      · subst h3
        rw [if_pos rfl, inside_eq]
        simp only [Option.bind_some]
        congr 1; exact decide_eq_decide.2 dr_fin.symm
      · rw [if_neg h3, decide_eq_false (show ¬ DR i n by unfold DR; omega)]
theorem rdright_ev (i n : Int) : Ev (fun k => computusref15_Right.f k i n) (decide (DR i n)) := by
  unfold computusref15_Right.f
  have e : (n == 0) = decide (n = 0) := rfl
  by_cases h : i = 0
  · subst h
    refine Ev.pos rfl (Ev.bind (rinside_ev n) (Ev.cast (Ev.now _) ?_))
    exact decide_eq_decide.2 dr_fin.symm
  · refine Ev.neg h ?_
    by_cases h1 : i = -1
    · refine Ev.pos h1 (Ev.cast (Ev.now _) ?_)
      rw [e]; apply decide_eq_decide.2; unfold DR; omega
    · refine Ev.neg h1 ?_
      by_cases h2 : i = 1
      · refine Ev.pos h2 (Ev.cast (Ev.now _) ?_)
        rw [e]; apply decide_eq_decide.2; unfold DR; omega
      · refine Ev.neg h2 (Ev.cast (Ev.now _) ?_)
        rw [decide_eq_false (show ¬ DR i n by unfold DR; omega)]
/-- A stamp that can be. -/
def DRS (i u : Int) : Prop := (i = 0 ∧ DIn (u / 86400000000)) ∨ ((i = -1 ∨ i = 1) ∧ u = 0)
instance (i u : Int) : Decidable (DRS i u) := inferInstanceAs (Decidable (_ ∨ _))
theorem drs_fin {u : Int} : DRS 0 u ↔ DIn (u / 86400000000) := by unfold DRS DIn; omega
theorem drightS_ev (i u : Int) (hu : I64 u) : Ev (fun k => day_RightStamp.f k i u) (decide (DRS i u)) := by
  unfold day_RightStamp.f
  refine Ev.bind (Ev.at1 fun k => split_eq k u hu) ?_
  simp only [Bool.and_eq_true, beq_iff_eq]
  by_cases h1 : i = -1 ∧ u = 0
  · exact Ev.pos h1 (Ev.cast (Ev.now _) (decide_eq_true (show DRS i u from .inr ⟨.inl h1.1, h1.2⟩)).symm)
  · refine Ev.neg h1 ?_
    by_cases h2 : i = 1 ∧ u = 0
    · exact Ev.pos h2 (Ev.cast (Ev.now _) (decide_eq_true (show DRS i u from .inr ⟨.inr h2.1, h2.2⟩)).symm)
    · refine Ev.neg h2 ?_
      by_cases h3 : i = 0
      · subst h3
        refine Ev.pos rfl (Ev.bind0 (inside_eq _) (Ev.cast (Ev.now _) ?_))
        exact decide_eq_decide.2 drs_fin.symm
      · refine Ev.neg h3 (Ev.cast (Ev.now _) ?_)
        rw [decide_eq_false (show ¬ DRS i u by unfold DRS; omega)]
theorem rsplit_ev (u : Int) (hu : I64 u) : Ev (fun k => computusref01_Split.f k u) (u / 86400000000, u % 86400000000) := by
  have hb : I64 86400000000 := by unfold I64; omega
  unfold computusref01_Split.f
  refine Ev.bind (rdiv64_ev u 86400000000 hu hb (by decide)) ?_
  refine Ev.bind (rmod64_ev u 86400000000 hu hb (by decide)) ?_
  refine Ev.cast (Ev.now _) ?_
  rw [fl_pos (by decide), md_pos (by decide), out_in (by unfold I64 at *; omega)]
theorem rdrightS_ev (i u : Int) (hu : I64 u) : Ev (fun k => computusref15_RightStamp.f k i u) (decide (DRS i u)) := by
  unfold computusref15_RightStamp.f
  have e : (u == 0) = decide (u = 0) := rfl
  by_cases h : i = 0
  · subst h
    refine Ev.pos rfl (Ev.bind (rsplit_ev u hu) (Ev.bind (rinside_ev _) (Ev.cast (Ev.now _) ?_)))
    exact decide_eq_decide.2 drs_fin.symm
  · refine Ev.neg h ?_
    by_cases h1 : i = -1
    · refine Ev.pos h1 (Ev.cast (Ev.now _) ?_)
      rw [e]; apply decide_eq_decide.2; unfold DRS; omega
    · refine Ev.neg h1 ?_
      by_cases h2 : i = 1
      · refine Ev.pos h2 (Ev.cast (Ev.now _) ?_)
        rw [e]; apply decide_eq_decide.2; unfold DRS; omega
      · refine Ev.neg h2 (Ev.cast (Ev.now _) ?_)
        rw [decide_eq_false (show ¬ DRS i u by unfold DRS; omega)]
def ofD (i u : Int) : Int × Int × Int × Int := if DRS i u then (if i = 0 then (0, u / 86400000000, u % 86400000000, 0) else (i, 0, 0, 0)) else (0, 0, 0, 1)
theorem ofD_ev (i u : Int) (hu : I64 u) : Ev (fun k => day_Of.f k i u) (ofD i u) := by
  unfold day_Of.f ofD
  refine Ev.bind (drightS_ev i u hu) ?_
  by_cases h : DRS i u
  · rw [if_pos h]
    refine Ev.pos (decide_eq_true h) ?_
    by_cases g : i = 0
    · refine Ev.pos g ?_; rw [if_pos g]; exact Ev.bind (Ev.at1 fun k => split_eq k u hu) (Ev.now _)
    · refine Ev.neg g ?_; rw [if_neg g]; exact Ev.now _
  · rw [if_neg h]
    exact Ev.neg (by rw [decide_eq_false h]; simp) (Ev.now _)
/-- A date and a time of its day as a stamp. -/
def stampD (i n t : Int) : Int × Int × Int :=
  if DR i n ∧ 0 ≤ t ∧ t ≤ 86400000000 then (if i = 0 then (if DIn ((n * 86400000000 + t) / 86400000000) then (0, n * 86400000000 + t, 0) else (0, 0, 10)) else (i, 0, 0)) else (0, 0, 1)
theorem rstampD_j0 (i n t : Int) (h : DR i n ∧ 0 ≤ t ∧ t ≤ 86400000000) : Ev (fun k => computusref15_Stamp.j0 k t false i n) (stampD i n t) := by
  obtain ⟨h, h0, h1⟩ := h
  unfold stampD
  rw [if_pos ⟨h, h0, h1⟩]
  refine Ev.succ ?_
  simp only [computusref15_Stamp.j0, Bool.false_eq_true, if_false]
  by_cases g : i = 0
  · rw [if_pos g]
    have hn : DIn n := by subst g; exact dr_fin.1 h
    have b : -211810204800000000 ≤ n * 86400000000 ∧ n * 86400000000 ≤ 9223371244800000000 := by unfold DIn at hn; omega
    refine Ev.pos g ?_
    by_cases y : t = 86400000000
    · refine Ev.pos y ?_
      have e1 : wrap64 (n + 1) = n + 1 := by unfold DIn at hn; rw [w64 (by omega) (by omega)]
      have e2 : wrap64 (wrap64 ((n + 1) * 86400000000)) = n * 86400000000 + t := by
        rw [w64 (x := (n + 1) * 86400000000) (by omega) (by omega), w64 (by omega) (by omega)]; omega
      have e3 : (n * 86400000000 + t) / 86400000000 = n + 1 := by omega
      rw [e1, e2, e3]
      refine Ev.bind (rinside_ev _) ?_
      by_cases z : DIn (n + 1)
      · rw [if_pos z]; exact Ev.pos (decide_eq_true z) (Ev.now _)
      · rw [if_neg z]; exact Ev.neg (by rw [decide_eq_false z]; simp) (Ev.now _)
    · refine Ev.neg y ?_
      have e2 : wrap64 (wrap64 (n * 86400000000) + t) = n * 86400000000 + t := by
        rw [w64 (x := n * 86400000000) (by omega) (by omega), w64 (by omega) (by omega)]
      have e3 : (n * 86400000000 + t) / 86400000000 = n := by omega
      rw [e2, e3, if_pos hn]
      exact Ev.bind (rinside_ev _) (Ev.pos (decide_eq_true hn) (Ev.now _))
  · refine Ev.neg g ?_
    rw [if_neg g]
    exact Ev.now _
theorem rstampD_ev (i n t : Int) : Ev (fun k => computusref15_Stamp.f k i n t) (stampD i n t) := by
  unfold computusref15_Stamp.f
  refine Ev.bind (rdright_ev i n) ?_
  have no : ¬ (DR i n ∧ 0 ≤ t ∧ t ≤ 86400000000) → Ev (fun k => computusref15_Stamp.j0 k t true i n) (stampD i n t) := by
    intro f
    unfold stampD
    rw [if_neg f]
    refine Ev.succ ?_
    simp only [computusref15_Stamp.j0, if_true]
    exact Ev.now _
  by_cases h : DR i n
  · refine Ev.pos (decide_eq_true h) ?_
    by_cases h0 : t < 0
    · exact Ev.pos h0 (no (by omega))
    · refine Ev.neg h0 ?_
      by_cases h1 : t > 86400000000
      · rw [decide_eq_true h1]; exact no (by omega)
      · rw [decide_eq_false h1]; exact rstampD_j0 i n t ⟨h, by omega, by omega⟩
  · exact Ev.neg (by rw [decide_eq_false h]; simp) (no (fun f => h f.1))
end Go.Proofs.YthkmckmfgglafaaGreat.Civ
namespace Go.Proofs.YthkmckmfgglafaaGreat.Pure
set_option linter.unusedVariables false
set_option linter.unusedSimpArgs false
open Go.RowKit Go.Proofs.YthkmckmfgglafaaGreat.P Go.Proofs.YthkmckmfgglafaaGreatW.PrintWords Go.Proofs.YthkmckmfgglafaaGreatW.PrintLast Go.Proofs.YthkmckmfgglafaaGreat.Civ
theorem decR6 (n : Int) : dec_Right.f n 6 = some true := by
  unfold dec_Right.f
  simp
theorem decR0 (n : Int) : dec_Right.f n 0 = some true := by
  unfold dec_Right.f
  simp
theorem OpsMakes : computuslaw20_OpsMakes.Pure := by
  intro i u _ hu
  have hu := i64_of_wf hu
  refine Ev.rounds ?_
  unfold computuslaw20_OpsMakes.f
  by_cases hi : i = 0
  case neg => exact Ev.pos hi (Ev.now _)
  subst hi
  refine Ev.neg (by simp) (Ev.bind (rdrightS_ev 0 u hu) ?_)
  by_cases h : DRS 0 u
  case neg => exact Ev.pos (decide_eq_false h) (Ev.now _)
  refine Ev.neg (by simp [h]) (Ev.bind (drightS_ev 0 u hu) (Ev.pos (decide_eq_true h) ?_))
  have hD : DIn (u / 86400000000) := drs_fin.1 h
  have hR : DR 0 (u / 86400000000) := .inl ⟨rfl, hD⟩
  have hO : Ev (fun k => day_Of.f k 0 u) (0, u / 86400000000, u % 86400000000, 0) := Ev.cast (ofD_ev 0 u hu) (by unfold ofD; rw [if_pos h, if_pos rfl])
  obtain ⟨y, m, d, hd⟩ := date_of (u / 86400000000)
  have hP : day_Parts.f 0 (u / 86400000000) = some (y, m, d, 0) := by
    unfold day_Parts.f
    rw [dright_eq, decide_eq_true hR]
    simp only [Option.bind_some, if_true]
    rw [date_eq hd (din_can hD)]; rfl
  have hy := (can_of_year hd).1 (din_can hD)
  have hm1 := hd.m1
  have hm2 := hd.m12
  obtain ⟨t, ht⟩ : ∃ t, t = u % 86400000000 := ⟨_, rfl⟩
  have t0 : 0 ≤ t := by omega
  have t1 : t < 86400000000 := by omega
  rw [← ht] at hO
  have n0 : Ev (fun k => mkNum k 0 0 u) (if y < 1 then wrap64 (y - 1) else y) := Ev.bind hO (Ev.bind0 hP (Ev.now _))
  have n1 : Ev (fun k => mkNum k 1 0 u) m := Ev.bind hO (Ev.bind0 hP (Ev.now _))
  have n2 : Ev (fun k => mkNum k 2 0 u) d := Ev.bind hO (Ev.bind0 hP (Ev.now _))
  have n3 : Ev (fun k => mkNum k 3 0 u) (wrap64 (Int.tdiv t 3600000000)) := Ev.bind hO (Ev.now _)
  have n4 : Ev (fun k => mkNum k 4 0 u) (wrap64 (Int.tdiv (Int.tmod t 3600000000) 60000000)) := Ev.bind hO (Ev.now _)
  have n5 : Ev (fun k => mkNum k 5 0 u) (Int.tmod t 60000000) := Ev.bind hO (Ev.now _)
  have n6 : Ev (fun k => mkNum k 6 0 u) (wrap64 (Int.tdiv (wrap64 (m + 2)) 3)) := Ev.bind hO (Ev.bind0 hP (Ev.now _))
  have ey : (if (if y < 1 then wrap64 (y - 1) else y) < 0 then wrap64 ((if y < 1 then wrap64 (y - 1) else y) + 1) else (if y < 1 then wrap64 (y - 1) else y)) = y := by
    by_cases g : y < 1
    · rw [if_pos g, w64 (x := y - 1) (by omega) (by omega), if_pos (by omega), Int.sub_add_cancel, w64 (by omega) (by omega)]
    · rw [if_neg g, if_neg (by omega)]
  have hk : Ev (fun k => computusref15_Make.f k (if (if y < 1 then wrap64 (y - 1) else y) < 0 then wrap64 ((if y < 1 then wrap64 (y - 1) else y) + 1) else (if y < 1 then wrap64 (y - 1) else y)) m d) (0, u / 86400000000, 0) := by
    rw [ey]
    refine Ev.cast (rmakeD_ev y m d) ?_
    unfold makeD
    rw [if_pos (show DateOk y m d from ⟨hy.1, hy.2, hd.m1, hd.m12, hd.d1, hd.dl⟩), hd.num]
    unfold made
    rw [if_pos hD]
  have e3 : wrap64 (Int.tdiv t 3600000000) = t / 3600000000 := by rw [td_pos t0, w64 (by omega) (by omega)]
  have em : Int.tmod t 3600000000 = t % 3600000000 := tm_pos t0
  have e4 : wrap64 (Int.tdiv (Int.tmod t 3600000000) 60000000) = t % 3600000000 / 60000000 := by rw [em, td_pos (by omega), w64 (by omega) (by omega)]
  have e5 : Int.tmod t 60000000 = t % 60000000 := tm_pos t0
  have es : wrap64 (wrap64 (wrap64 (wrap64 (wrap64 (Int.tdiv t 3600000000) * 3600) * 1000000) + wrap64 (wrap64 (wrap64 (Int.tdiv (Int.tmod t 3600000000) 60000000) * 60) * 1000000)) + Int.tmod t 60000000) = t := by
    rw [e3, e4, e5]
    rw [w64 (x := t / 3600000000 * 3600) (by omega) (by omega), w64 (x := t / 3600000000 * 3600 * 1000000) (by omega) (by omega), w64 (x := t % 3600000000 / 60000000 * 60) (by omega) (by omega), w64 (x := t % 3600000000 / 60000000 * 60 * 1000000) (by omega) (by omega)]
    rw [w64 (x := t / 3600000000 * 3600 * 1000000 + t % 3600000000 / 60000000 * 60 * 1000000) (by omega) (by omega), w64 (by omega) (by omega)]
    omega
  have hs : Ev (fun k => computusref15_Stamp.f k 0 (u / 86400000000) (wrap64 (wrap64 (wrap64 (wrap64 (wrap64 (Int.tdiv t 3600000000) * 3600) * 1000000) + wrap64 (wrap64 (wrap64 (Int.tdiv (Int.tmod t 3600000000) 60000000) * 60) * 1000000)) + Int.tmod t 60000000))) (0, u, 0) := by
    rw [es]
    refine Ev.cast (rstampD_ev 0 (u / 86400000000) t) ?_
    unfold stampD
    have e : u / 86400000000 * 86400000000 + t = u := by omega
    rw [if_pos ⟨hR, by omega, by omega⟩, if_pos rfl, e, if_pos hD]
  have hC : I64 946684800000000 := by unfold I64; omega
  have hA := add_eq u 946684800000000 hu hC
  by_cases g : I64 (u + 946684800000000)
  · have hE : mkEp u = some (u + 946684800000000, 6, 0) := by unfold mkEp; rw [hA, out_in g]; rfl
    refine Ev.bind n0 (Ev.bind n1 (Ev.bind n2 (Ev.bind hk (Ev.bind n3 (Ev.bind n4 (Ev.bind n5 (Ev.bind hs (Ev.bind n6 (Ev.bind0 hE (Ev.bind0 (decR6 _) (Ev.pos ?_ (Ev.now _))))))))))))
    exact ⟨fun _ => (w64_of g).symm, rfl, rfl, rfl, rfl, rfl, rfl⟩
  · have hE : mkEp u = some (0, 0, 10) := by unfold mkEp; rw [hA, out_no g]; rfl
    refine Ev.bind n0 (Ev.bind n1 (Ev.bind n2 (Ev.bind hk (Ev.bind n3 (Ev.bind n4 (Ev.bind n5 (Ev.bind hs (Ev.bind n6 (Ev.bind0 hE (Ev.bind0 (decR0 _) (Ev.pos ?_ (Ev.now _))))))))))))
    exact ⟨fun h => by simp at h, rfl, rfl, rfl, rfl, rfl, rfl⟩
end Go.Proofs.YthkmckmfgglafaaGreat.Pure
