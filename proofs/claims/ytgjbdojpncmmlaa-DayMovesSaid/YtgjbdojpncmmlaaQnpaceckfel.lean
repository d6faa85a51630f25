/- What the functions of package day and of its reference answer. -/
import Derived.Test.YtgjbdojpncmmlaaQckifepldkc
import Derived.Test.YtgjbdojpncmmlaaQpbhbbcmnip
import Derived.Test.YtgjbdojpncmmlaaQldopppcfjk
import Derived.Test.YtgjbdojpncmmlaaQjpmibpglgh
import Derived.Test.YtgjbdojpncmmlaaQjjeoeinjcb
import Derived.Test.YtgjbdojpncmmlaaQlldpbiopdl
import Derived.Test.YtgjbdojpncmmlaaQagajpmdjkf
import Derived.Test.YtgjbdojpncmmlaaQeccfklbhpc
import Derived.Test.YtgjbdojpncmmlaaQifokhmkkma
import Derived.Test.YtgjbdojpncmmlaaQbmflcecdej
import Derived.Test.YtgjbdojpncmmlaaQejjehoeccn
import Derived.Test.YtgjbdojpncmmlaaQelpjppmcbd
import Derived.Test.YtgjbdojpncmmlaaQgmhmahhkaa
import Derived.Test.YtgjbdojpncmmlaaQmgdmpnnkfc
import Derived.Test.YtgjbdojpncmmlaaQdjnddkhhhl
import Derived.Test.YtgjbdojpncmmlaaQcaoedimbfp
import Derived.Test.YtgjbdojpncmmlaaQnfcfnbpnoo
import Derived.Test.YtgjbdojpncmmlaaQjklkebkncg
import Derived.Test.YtgjbdojpncmmlaaQnjbodpdeli
import Derived.Test.YtgjbdojpncmmlaaQiaancdimde
import Derived.Test.YtgjbdojpncmmlaaQdpchfalcld
import Derived.Test.YtgjbdojpncmmlaaQjllgamhcjn
import Derived.Test.YtgjbdojpncmmlaaQmblgkeapop
import Derived.Test.YtgjbdojpncmmlaaQdmjebpnkad
import Derived.Test.YtgjbdojpncmmlaaQdjobfbjnep
import Derived.Test.YtgjbdojpncmmlaaQnlkipaphod
import Derived.Test.YtgjbdojpncmmlaaQieebpoecll
import Derived.Test.YtgjbdojpncmmlaaQmkhgoafbco
import Derived.Test.YtgjbdojpncmmlaaQfbedmanbon
import Derived.Test.YtgjbdojpncmmlaaQifpkbjninp
import Derived.Test.YtgjbdojpncmmlaaQbghbhmeknf
import Derived.Test.YtgjbdojpncmmlaaQgbicodemee
namespace Go.Proofs.Ytgjbdojpncmmlaa.Civ
set_option linter.unusedVariables false
set_option linter.unusedSimpArgs false
open Go.RowKit Go.Proofs.YtgjbdojpncmmlaaW.PrintWords Go.Proofs.YtgjbdojpncmmlaaW.PrintLast Go.Proofs.YtgjbdojpncmmlaaW.PrintMore Go.Proofs.Ytgjbdojpncmmlaa.P
/-- A day from the year -4712 to 294276. -/
def DIn (n : Int) : Prop := -2451507 ≤ n ∧ n ≤ 106751982
instance (n : Int) : Decidable (DIn n) := inferInstanceAs (Decidable (_ ∧ _))
theorem dby_lo : dby (-4712) = -2451507 := by decide
theorem dby_hi : dby 294277 = 106751983 := by decide
theorem din_year {n y m d : Int} (h : IsDate n y m d) : (-4712 ≤ y ∧ y ≤ 294276) ↔ DIn n := by
  have g := h.year
  have a := dby_lo
  have b := dby_hi
  unfold DIn
  constructor
  · intro f
    have p := dby_far (-4712) y (by omega)
    have q := dby_far (y + 1) 294277 (by omega)
    omega
  · intro f
    constructor
    · rcases Int.lt_or_le y (-4712) with z | z
      · have p := dby_far (y + 1) (-4712) (by omega)
        omega
      · exact z
    · rcases Int.lt_or_le 294276 y with z | z
      · have p := dby_far 294277 y (by omega)
        omega
      · exact z
theorem din_can {n : Int} (h : DIn n) : CanDay n := by unfold DIn at h; unfold CanDay; omega
theorem din_i64 {n : Int} (h : DIn n) : I64 n := by unfold DIn at h; unfold I64; omega
theorem inside_eq (n : Int) : day_inside.f n = some (decide (DIn n)) := by
  unfold day_inside.f
  by_cases hc : CanDay n
  · obtain ⟨y, m, d, h⟩ := date_of n
    rw [date_eq h hc]
    have e := din_year h
    simp only [Option.bind_some, if_true]
    by_cases g : y ≥ -4712
    · rw [if_pos g]; congr 1; apply decide_eq_decide.2; rw [← e]; omega
    · rw [if_neg g, decide_eq_false]; rw [← e]; omega
  · rw [date_no hc]
    simp only [Option.bind_some]
    rw [if_neg (by decide), decide_eq_false (fun f => hc (din_can f))]
theorem rinside_ev (n : Int) : Ev (fun k => computusref15_inside.f k n) (decide (DIn n)) := by
  unfold computusref15_inside.f
  by_cases hc : CanDay n
  · obtain ⟨y, m, d, h⟩ := date_of n
    have e := din_year h
    refine Ev.bind (rdate_ev h hc) ?_
    refine Ev.pos rfl ?_
    by_cases g : y ≥ -4712
    · refine Ev.pos g (Ev.cast (Ev.now _) ?_)
      apply decide_eq_decide.2; rw [← e]; show y ≤ 294276 ↔ _; omega
    · refine Ev.neg g (Ev.cast (Ev.now _) ?_)
      rw [decide_eq_false]; rw [← e]; omega
  · refine Ev.bind (rdate_no hc) ?_
    refine Ev.neg (by decide) (Ev.cast (Ev.now _) ?_)
    rw [decide_eq_false (fun f => hc (din_can f))]
/-- A date or an error. -/
def made (n : Int) : Int × Int × Int := if DIn n then (0, n, 0) else (0, 0, 10)
def madeE (n e : Int) : Int × Int × Int := if e = 0 then made n else (0, 0, 10)
theorem finite_eq (n e : Int) : day_finite.f n e = some (madeE n e) := by
  unfold day_finite.f madeE made
  by_cases h : e = 0
  · rw [if_pos h, if_pos h, inside_eq]
    simp only [Option.bind_some, decide_eq_true_eq]
    split <;> rfl
  · rw [if_neg h, if_neg h]
theorem rmade_ev (n e : Int) : Ev (fun k => computusref15_made.f k n e) (madeE n e) := by
  unfold computusref15_made.f madeE made
  by_cases h : e = 0
  · rw [if_pos h]
    refine Ev.pos h (Ev.bind (rinside_ev n) ?_)
    by_cases g : DIn n
    · rw [if_pos g]; exact Ev.pos (decide_eq_true g) (Ev.now _)
    · rw [if_neg g]; exact Ev.neg (by rw [decide_eq_false g]; simp) (Ev.now _)
  · refine Ev.neg h ?_; rw [if_neg h]; exact Ev.now _
theorem madeE_out (z : Int) : madeE (out z).1 (out z).2 = made z := by
  by_cases h : I64 z
  · rw [out_in h]; rfl
  · rw [out_no h]
    unfold madeE made
    rw [if_neg (by decide), if_neg (fun f => h (din_i64 f))]
/-- A date that can be. -/
def DR (i n : Int) : Prop := (i = 0 ∧ DIn n) ∨ ((i = -1 ∨ i = 1) ∧ n = 0)
instance (i n : Int) : Decidable (DR i n) := inferInstanceAs (Decidable (_ ∨ _))
theorem dr_fin {n : Int} : DR 0 n ↔ DIn n := by unfold DR DIn; omega
theorem dright_eq (i n : Int) : day_Right.f i n = some (decide (DR i n)) := by
  unfold day_Right.f
  simp only [Bool.and_eq_true, beq_iff_eq]
  by_cases h1 : i = -1 ∧ n = 0
  · rw [if_pos h1, decide_eq_true (show DR i n from .inr ⟨.inl h1.1, h1.2⟩)]
  · rw [if_neg h1]
    by_cases h2 : i = 1 ∧ n = 0
    · rw [if_pos h2, decide_eq_true (show DR i n from .inr ⟨.inr h2.1, h2.2⟩)]
    · rw [if_neg h2]
      by_cases h3 : i = 0
      · subst h3
        rw [if_pos rfl, inside_eq]
        simp only [Option.bind_some]
        congr 1; exact decide_eq_decide.2 dr_fin.symm
      · rw [if_neg h3, decide_eq_false (show ¬ DR i n by unfold DR; omega)]
theorem rdright_ev (i n : Int) : Ev (fun k => computusref15_Right.f k i n) (decide (DR i n)) := by
  unfold computusref15_Right.f
  have e : (n == 0) = decide (n = 0) := rfl
  by_cases h : i = 0
  · subst h
    refine Ev.pos rfl (Ev.bind (rinside_ev n) (Ev.cast (Ev.now _) ?_))
    exact decide_eq_decide.2 dr_fin.symm
  · refine Ev.neg h ?_
    by_cases h1 : i = -1
    · refine Ev.pos h1 (Ev.cast (Ev.now _) ?_)
      rw [e]; apply decide_eq_decide.2; unfold DR; omega
    · refine Ev.neg h1 ?_
      by_cases h2 : i = 1
      · refine Ev.pos h2 (Ev.cast (Ev.now _) ?_)
        rw [e]; apply decide_eq_decide.2; unfold DR; omega
      · refine Ev.neg h2 (Ev.cast (Ev.now _) ?_)
        rw [decide_eq_false (show ¬ DR i n by unfold DR; omega)]
/-- So many days on. -/
def addD (i n q : Int) : Int × Int × Int := if DR i n then (if i = 0 then made (n + q) else (i, n, 0)) else (0, 0, 1)
theorem dr_i64 {i n : Int} (h : DR i n) : I64 n := by unfold DR DIn at h; unfold I64; omega
theorem addD_eq (i n q : Int) (hq : I64 q) : day_Add.f i n q = some (addD i n q) := by
  unfold day_Add.f day_move_num_Add.f addD
  rw [dright_eq]
  by_cases h : DR i n
  · rw [decide_eq_true h, if_pos h]
    simp only [Option.bind_some, if_true]
    by_cases g : i = 0
    · rw [if_pos g, if_pos g, add_eq n q (dr_i64 h) hq]
      simp only [Option.bind_some]
      rw [finite_eq, madeE_out]
      rfl
    · rw [if_neg g, if_neg g]; rfl
  · rw [decide_eq_false h, if_neg h]; rfl
theorem raddD_ev (i n q : Int) (hq : I64 q) : Ev (fun k => computusref15_Add.f k i n q) (addD i n q) := by
  unfold computusref15_Add.f addD
  refine Ev.bind (rdright_ev i n) ?_
  by_cases h : DR i n
  · rw [if_pos h]
    refine Ev.pos (decide_eq_true h) ?_
    by_cases g : i = 0
    · rw [if_pos g]
      refine Ev.pos g (Ev.bind (radd_ev n q (dr_i64 h) hq) ?_)
      refine Ev.bind (rmade_ev _ _) ?_
      rw [madeE_out]
      exact Ev.now _
    · refine Ev.neg g ?_; rw [if_neg g]; exact Ev.now _
  · rw [if_neg h]
    exact Ev.neg (by rw [decide_eq_false h]; simp) (Ev.now _)
def subD (i n j m : Int) : Int × Int := if DR i n ∧ DR j m then (if i = 0 ∧ j = 0 then (n - m, 0) else (0, 10)) else (0, 1)
theorem sub_w {i n j m : Int} (h : DR i n) (g : DR j m) : wrap64 (n - m) = n - m := by unfold DR DIn at *; rw [w64 (by omega) (by omega)]
theorem subD_ev (i n j m : Int) : Ev (fun k => day_Sub.f k i n j m) (subD i n j m) := by
  unfold day_Sub.f subD
  refine Ev.bind0 (dright_eq i n) ?_
  by_cases h : DR i n
  · refine Ev.pos (decide_eq_true h) (Ev.bind0 (dright_eq j m) (Ev.succ ?_))
    by_cases g : DR j m
    · rw [if_pos ⟨h, g⟩, decide_eq_true g]
      simp only [day_Sub.j0, Bool.not_true, Bool.false_eq_true, if_false]
      by_cases z : i = 0
      · refine Ev.pos z ?_
        by_cases y : j = 0
        · have zy : i = 0 ∧ j = 0 := ⟨z, y⟩
          refine Ev.pos y ?_
          rw [if_pos zy, sub_w h g]; exact Ev.now _
        · have zy : ¬ (i = 0 ∧ j = 0) := fun f => y f.2
          refine Ev.neg y ?_
          rw [if_neg zy]; exact Ev.now _
      · have zy : ¬ (i = 0 ∧ j = 0) := fun f => z f.1
        refine Ev.neg z ?_
        rw [if_neg zy]; exact Ev.now _
    · rw [if_neg (fun f => g f.2), decide_eq_false g]
      simp only [day_Sub.j0, Bool.not_false, if_true]
      exact Ev.now _
  · rw [if_neg (fun f => h f.1)]
    refine Ev.neg (by rw [decide_eq_false h]; simp) (Ev.succ ?_)
    simp only [day_Sub.j0, if_true]
    exact Ev.now _
theorem rsubD_ev (i n j m : Int) : Ev (fun k => computusref15_Sub.f k i n j m) (subD i n j m) := by
  unfold computusref15_Sub.f subD
  refine Ev.bind (rdright_ev i n) ?_
  by_cases h : DR i n
  · refine Ev.pos (decide_eq_true h) (Ev.bind (rdright_ev j m) (Ev.succ ?_))
    by_cases g : DR j m
    · rw [if_pos ⟨h, g⟩, decide_eq_true g]
      simp only [computusref15_Sub.j0, Bool.not_true, Bool.false_eq_true, if_false]
      by_cases z : i = 0
      · refine Ev.pos z ?_
        by_cases y : j = 0
        · have zy : i = 0 ∧ j = 0 := ⟨z, y⟩
          refine Ev.pos y ?_
          rw [if_pos zy, sub_w h g]; exact Ev.now _
        · have zy : ¬ (i = 0 ∧ j = 0) := fun f => y f.2
          refine Ev.neg y ?_
          rw [if_neg zy]; exact Ev.now _
      · have zy : ¬ (i = 0 ∧ j = 0) := fun f => z f.1
        refine Ev.neg z ?_
        rw [if_neg zy]; exact Ev.now _
    · rw [if_neg (fun f => g f.2), decide_eq_false g]
      simp only [computusref15_Sub.j0, Bool.not_false, if_true]
      exact Ev.now _
  · rw [if_neg (fun f => h f.1)]
    refine Ev.neg (by rw [decide_eq_false h]; simp) (Ev.succ ?_)
    simp only [computusref15_Sub.j0, if_true]
    exact Ev.now _
/-- The order of two that are each infinite or not. -/
def lex (i n j m : Int) : Int := if sgn i j = 0 then sgn n m else sgn i j
theorem rorder_ev (i n j m : Int) : Ev (fun k => computusref15_order.f k i j n m) (lex i n j m) := by
  unfold computusref15_order.f lex
  rcases Int.lt_trichotomy i j with h | h | h
  · rw [sgn_lt h, if_neg (by decide)]
    refine Ev.pos h (Ev.succ ?_)
    simp only [computusref15_order.j0, if_true]
    exact Ev.now _
  · rw [sgn_eq h, if_pos rfl]
    refine Ev.neg (by omega) (Ev.pos h (Ev.succ ?_))
    rcases Int.lt_trichotomy n m with g | g | g
    · rw [sgn_lt g, decide_eq_true g]
      simp only [computusref15_order.j0, if_true]
      exact Ev.now _
    · rw [sgn_eq g, decide_eq_false (by omega)]
      simp only [computusref15_order.j0, Bool.false_eq_true, if_false]
      exact Ev.neg (by omega) (Ev.neg (by omega) (Ev.now _))
    · rw [sgn_gt g, decide_eq_false (by omega)]
      simp only [computusref15_order.j0, Bool.false_eq_true, if_false]
      exact Ev.neg (by omega) (Ev.pos g (Ev.now _))
  · rw [sgn_gt h, if_neg (by decide)]
    refine Ev.neg (by omega) (Ev.neg (by omega) (Ev.succ ?_))
    simp only [computusref15_order.j0, Bool.false_eq_true, if_false]
    exact Ev.pos h (Ev.now _)
def cmpD (i n j m : Int) : Int := if DR i n ∧ DR j m then lex i n j m else 0
theorem cmpD_ev (i n j m : Int) : Ev (fun k => day_Cmp.f k i n j m) (cmpD i n j m) := by
  unfold day_Cmp.f cmpD
  refine Ev.bind0 (dright_eq i n) ?_
  by_cases h : DR i n
  · refine Ev.pos (decide_eq_true h) (Ev.bind0 (dright_eq j m) (Ev.succ ?_))
    by_cases g : DR j m
    · rw [if_pos ⟨h, g⟩, decide_eq_true g]
      simp only [day_Cmp.j0, Bool.not_true, Bool.false_eq_true, if_false]
      exact Ev.bind0 (cmpi_eq i j) (Ev.bind0 (cmp64_eq n m) (Ev.bind (or_ev _ _) (Ev.now _)))
    · rw [if_neg (fun f => g f.2), decide_eq_false g]
      simp only [day_Cmp.j0, Bool.not_false, if_true]
      exact Ev.now _
  · rw [if_neg (fun f => h f.1)]
    refine Ev.neg (by rw [decide_eq_false h]; simp) (Ev.succ ?_)
    simp only [day_Cmp.j0, if_true]
    exact Ev.now _
theorem rcmpD_ev (i n j m : Int) : Ev (fun k => computusref15_Cmp.f k i n j m) (cmpD i n j m) := by
  unfold computusref15_Cmp.f cmpD
  refine Ev.bind (rdright_ev i n) ?_
  by_cases h : DR i n
  · refine Ev.pos (decide_eq_true h) (Ev.bind (rdright_ev j m) ?_)
    by_cases g : DR j m
    · rw [if_pos ⟨h, g⟩]
      exact Ev.pos (decide_eq_true g) (Ev.bind (rorder_ev i n j m) (Ev.now _))
    · rw [if_neg (fun f => g f.2)]
      exact Ev.neg (by rw [decide_eq_false g]; simp) (Ev.now _)
  · rw [if_neg (fun f => h f.1)]
    exact Ev.neg (by rw [decide_eq_false h]; simp) (Ev.now _)
theorem shift_same (n q : Int) : ∃ r, Ev (fun k => civil_Shift.f k n q) r ∧ Ev (fun k => computusref02_Shift.f k n q) r := by
  by_cases h : CanDay n ∧ MonthsOk q
  · obtain ⟨y, m, d, hd⟩ := date_of n
    exact ⟨_, Ev.at1 (fun k => shift_eq hd h.1 h.2 k), rshift_ev hd h.1 h.2⟩
  · have h' : ¬ CanDay n ∨ ¬ MonthsOk q := by
      by_cases a : CanDay n
      · exact .inr fun b => h ⟨a, b⟩
      · exact .inl a
    exact ⟨_, Ev.at1 (fun k => shift_no h' k), rshift_no h'⟩
theorem dshift_same (i n q : Int) : ∃ r, Ev (fun k => day_Shift.f k i n q) r ∧ Ev (fun k => computusref15_Shift.f k i n q) r := by
  unfold day_Shift.f day_move_civil_Shift.f computusref15_Shift.f
  by_cases h : DR i n
  · by_cases g : i = 0
    · obtain ⟨r, h1, h2⟩ := shift_same n q
      refine ⟨madeE r.1 r.2, ?_, ?_⟩
      · exact Ev.bind (Ev.bind0 (dright_eq i n) (Ev.pos (decide_eq_true h) (Ev.pos g (Ev.bind h1 (Ev.bind0 (finite_eq _ _) (Ev.now _)))))) (Ev.now _)
      · exact Ev.bind (rdright_ev i n) (Ev.pos (decide_eq_true h) (Ev.pos g (Ev.bind h2 (Ev.bind (rmade_ev _ _) (Ev.now _)))))
    · refine ⟨(i, n, 0), ?_, ?_⟩
      · exact Ev.bind (Ev.bind0 (dright_eq i n) (Ev.pos (decide_eq_true h) (Ev.neg g (Ev.now _)))) (Ev.now _)
      · exact Ev.bind (rdright_ev i n) (Ev.pos (decide_eq_true h) (Ev.neg g (Ev.now _)))
  · refine ⟨(0, 0, 1), ?_, ?_⟩
    · exact Ev.bind (Ev.bind0 (dright_eq i n) (Ev.neg (by rw [decide_eq_false h]; simp) (Ev.now _))) (Ev.now _)
    · exact Ev.bind (rdright_ev i n) (Ev.neg (by rw [decide_eq_false h]; simp) (Ev.now _))
end Go.Proofs.Ytgjbdojpncmmlaa.Civ
