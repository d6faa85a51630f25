/- What the reference's functions of whole numbers answer: the same as those of package num. -/
import Derived.Test.YteceeoaabmbckaaQbpcjcioeem
import Derived.Test.YteceeoaabmbckaaQgbpkefpolb
import Derived.Test.YteceeoaabmbckaaQdboclfmcoc
import Derived.Test.YteceeoaabmbckaaQlnmfplnpif
import Derived.Test.YteceeoaabmbckaaQgpippedcej
import Derived.Test.YteceeoaabmbckaaQcddiepiacm
import Derived.Test.YteceeoaabmbckaaQnfimnniaco
import Derived.Test.YteceeoaabmbckaaQmkdigojcmo
import Derived.Test.YteceeoaabmbckaaQmneeifjkkf
namespace Go.Proofs.Yteceeoaabmbckaa.Civ
set_option linter.unusedVariables false
set_option linter.unusedSimpArgs false
open Go.RowKit Go.Proofs.YteceeoaabmbckaaW.PrintWords Go.Proofs.YteceeoaabmbckaaW.PrintLast Go.Proofs.YteceeoaabmbckaaW.PrintMore Go.Proofs.Yteceeoaabmbckaa.P
theorem divide_ev (a b : Int) (ha : 0 ≤ a) (ha1 : a < 6277101735386680763835789423207666416102355444464034512896) (hb : 0 < b) (hb1 : b ≤ 3138550867693340381917894711603833208051177722232017256448) :
    Ev (fun k => computusref01_divide.f k (dig a) (dig b)) (dig (a / b), dig (a % b)) := by
  unfold computusref01_divide.f
  refine Ev.pos (by decide) ?_
  have h := divide_loop a b ha ha1 hb hb1 192 0 0 (by omega) (by omega) (by omega) hb (by
    have : a / 2 ^ 192 = 0 := Int.ediv_eq_zero_of_lt ha ha1
    rw [this]; simp)
  exact h
theorem fl_signs1 {x y : Int} (hy : y ≠ 0) : fl x y = if (ng x != ng y) = true then (if ab x % ab y = 0 then -(ab x / ab y) else -(ab x / ab y) - 1) else ab x / ab y := by
  have h := fl_signs (a := x) (b := 1) (c := y) rfl rfl hy
  rw [Int.mul_one, ab_pos (a := 1) (by omega), Int.mul_one] at h
  rw [h]
  have e : (((decide (x < 0)) != (decide ((1 : Int) < 0))) != (decide (y < 0))) = (ng x != ng y) := by
    unfold ng; rw [show decide ((1 : Int) < 0) = false from rfl]; cases decide (x < 0) <;> cases decide (y < 0) <;> rfl
  rw [e]
theorem over_ev {x y : Int} (hx : Half x) (hy : Half y) (h0 : y ≠ 0) : Ev (fun k => computusref01_Over.f k (ng x) (dg x) (ng y) (dg y)) (ng (fl x y), dg (fl x y)) := by
  have bx := ab_half hx
  have by_ := ab_half hy
  have hD : 0 < ab y := by have := ab_zero (x := y); omega
  have hq0 : 0 ≤ ab x / ab y := Int.ediv_nonneg bx.1 (by omega)
  have hq1 : ab x / ab y ≤ ab x := Int.ediv_le_self _ bx.1
  have hr0 := Int.emod_nonneg (ab x) (Int.ne_of_gt hD)
  have hr1 := Int.emod_lt_of_pos (ab x) hD
  have neg_ab : ∀ P : Int, 0 ≤ P → ab (-P) = P := fun P h => by unfold ab; split <;> omega
  unfold computusref01_Over.f
  refine Ev.bind (divide_ev (ab x) (ab y) bx.1 (by omega) hD by_.2) ?_
  have hf := fl_signs1 (x := x) h0
  unfold dg at *
  by_cases g : (ng x != ng y) = true
  · rw [if_pos g] at hf
    simp only [if_pos g]
    refine Ev.bind (zero_ev hr0 (by omega)) ?_
    refine Ev.succ ?_
    simp only [computusref01_Over.j0, if_pos g]
    by_cases z : ab x % ab y = 0
    · rw [if_pos z] at hf
      rw [decide_eq_true z, hf, neg_ab _ hq0]
      refine Ev.neg (by simp) ?_
      refine Ev.bind (zero_ev hq0 (by omega)) ?_
      have : (!decide (ab x / ab y = 0)) = ng (-(ab x / ab y)) := by
        by_cases w : ab x / ab y = 0
        · rw [w]; rfl
        · rw [decide_eq_false w, ng_true (by omega)]; rfl
      rw [this]; exact Ev.now _
    · rw [if_neg z] at hf
      rw [decide_eq_false z, hf, show -(ab x / ab y) - 1 = -(ab x / ab y + 1) by omega, neg_ab _ (by omega), ng_true (by omega)]
      refine Ev.pos (by simp) ?_
      rw [of_eq 1 (by unfold I64; omega)]
      refine Ev.bind0 rfl ?_
      refine Ev.bind (add_ev hq0 (by decide) (show ab x / ab y + ab 1 < _ by rw [ab_pos (a := 1) (by omega)]; omega)) ?_
      rw [ab_pos (a := 1) (by omega)]
      refine Ev.bind (zero_ev (by omega) (by omega)) ?_
      rw [decide_eq_false (by omega)]
      exact Ev.now _
  · rw [if_neg g] at hf
    simp only [if_neg g]
    refine Ev.succ ?_
    simp only [computusref01_Over.j0, if_neg g]
    refine Ev.neg (by simp) ?_
    rw [hf, ng_false (by omega), ab_pos hq0]
    exact Ev.now _
end Go.Proofs.Yteceeoaabmbckaa.Civ
