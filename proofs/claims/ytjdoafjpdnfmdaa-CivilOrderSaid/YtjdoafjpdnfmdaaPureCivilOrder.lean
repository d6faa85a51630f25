/- CivilOrder: of two days the later one is not the earlier one so many months on; no months change nothing; back again it is the day, if each month has it; for every input of 64-bit numbers. -/
import Derived.Test.YtjdoafjpdnfmdaaBase
import Derived.Test.YtjdoafjpdnfmdaaCivMath
import Derived.Test.YtjdoafjpdnfmdaaCivFns
import Derived.Test.YtjdoafjpdnfmdaaCivRef
import Derived.Test.YtjdoafjpdnfmdaaCivKnown
import Derived.Test.YtjdoafjpdnfmdaaCivShift
import Derived.Test.YtjdoafjpdnfmdaaPx0
import Derived.Test.YtjdoafjpdnfmdaaPx3
import Derived.Test.YtjdoafjpdnfmdaaPx4
import Derived.Test.YtjdoafjpdnfmdaaPx5
import Derived.Test.YtjdoafjpdnfmdaaPx8
namespace Go.Proofs.Ytjdoafjpdnfmdaa.Pure
set_option linter.unusedVariables false
set_option linter.unusedSimpArgs false
open Go.RowKit Go.Proofs.Ytjdoafjpdnfmdaa.P Go.Proofs.YtjdoafjpdnfmdaaW.PrintWords Go.Proofs.YtjdoafjpdnfmdaaW.PrintLast Go.Proofs.Ytjdoafjpdnfmdaa.Civ
theorem order_end (a q x s : Int) (hs : s = 0 → Shifted a q x) : Ev (fun k => computuslaw02_CivilOrder.j1 k a q x s) true := by
  refine Ev.step (f := fun k => (civil_Date.f a).bind fun b => if s = 0 then (if b.2.2.2 = 0 then computuslaw02_CivilOrder.j2 k a q x (decide (b.2.2.1 > 28)) else computuslaw02_CivilOrder.j2 k a q x true) else computuslaw02_CivilOrder.j2 k a q x true) (fun k => by simp only [computuslaw02_CivilOrder.j1]) ?_
  have stop : Ev (fun k => computuslaw02_CivilOrder.j2 k a q x true) true := Ev.step (f := fun k => (computuslaw02_known.f k).bind fun t => some t) (fun k => by simp only [computuslaw02_CivilOrder.j2, if_true]) known_end
  obtain ⟨y, m, d, h⟩ := date_of a
  by_cases hc : CanDay a
  · rw [date_eq h hc]
    simp only [Option.bind_some]
    by_cases g : s = 0
    · simp only [if_pos g, if_true]
      by_cases h28 : d > 28
      · simp only [decide_eq_true h28]; exact stop
      · simp only [decide_eq_false h28]
        have hS := hs g
        have hq := hS.2.1
        unfold MonthsOk at hq
        refine Ev.step (f := fun k => (civil_Shift.f k x (wrap64 (-q))).bind fun b => if b.1 = a then (if b.2 = 0 then (computuslaw02_known.f k).bind fun t => some t else some false) else some false) (fun k => ?_) ?_
        · simp only [computuslaw02_CivilOrder.j2]; rw [if_neg (by simp)]
        · rw [w64 (x := -q) (by omega) (by omega)]
          refine Ev.bind (Ev.at1 fun k => shift_back hS h (by omega) k) ?_
          simp only [if_true]
          exact known_end
    · simp only [if_neg g]; exact stop
  · rw [date_no hc]
    simp only [Option.bind_some]
    simp only [if_neg (show ¬ (10 : Int) = 0 by omega), ite_self]
    exact stop
theorem order_mid (a q x s : Int) (hs : s = 0 → Shifted a q x) : Ev (fun k => computuslaw02_CivilOrder.j0 k a q x s false) true := by
  refine Ev.step (f := fun k => (computusref02_Can.f k a).bind fun t => if t = true then (civil_Shift.f k a 0).bind fun b => (if b.1 = a then (if b.2 = 0 then computuslaw02_CivilOrder.j1 k a q x s else some false) else some false) else computuslaw02_CivilOrder.j1 k a q x s) (fun k => ?_) ?_
  · simp only [computuslaw02_CivilOrder.j0]; rw [if_neg (by simp)]
  · refine Ev.bind (rcan_ev a) ?_
    by_cases hc : CanDay a
    · simp only [decide_eq_true hc, if_true]
      refine Ev.bind (Ev.at1 fun k => shift_zero hc k) ?_
      simp only [if_true]
      exact order_end a q x s hs
    · simp only [decide_eq_false hc]
      exact order_end a q x s hs
theorem CivilOrder : computuslaw02_CivilOrder.Pure := by
  intro a b q _ _ _
  refine Ev.rounds ?_
  unfold computuslaw02_CivilOrder.f
  rcases shift_cases a q with ⟨x, ex, hx⟩ | ex
  · refine Ev.bind (Ev.at1 ex) ?_
    rcases shift_cases b q with ⟨y, ey, hy⟩ | ey
    · refine Ev.bind (Ev.at1 ey) ?_
      simp only [if_true]
      by_cases hab : a ≤ b
      · have := shifted_mono hx hy hab
        simp only [if_pos hab, decide_eq_false (show ¬ x > y by omega)]
        exact order_mid a q x 0 fun _ => hx
      · simp only [if_neg hab]
        exact order_mid a q x 0 fun _ => hx
    · refine Ev.bind (Ev.at1 ey) ?_
      simp only [if_true, if_neg (show ¬ (10 : Int) = 0 by omega)]
      exact order_mid a q x 0 fun _ => hx
  · refine Ev.bind (Ev.at1 ex) ?_
    rcases shift_cases b q with ⟨y, ey, hy⟩ | ey
    · refine Ev.bind (Ev.at1 ey) ?_
      simp only [if_neg (show ¬ (10 : Int) = 0 by omega)]
      exact order_mid a q 0 10 fun h => absurd h (by omega)
    · refine Ev.bind (Ev.at1 ey) ?_
      simp only [if_neg (show ¬ (10 : Int) = 0 by omega)]
      exact order_mid a q 0 10 fun h => absurd h (by omega)
end Go.Proofs.Ytjdoafjpdnfmdaa.Pure
