/- SpanTwice: once more is the sum with the one. -/
import Derived.Test.YtfpclhkieccojaaQjibfjjnoko
import Derived.Test.YtfpclhkieccojaaQfemcomiepb
import Derived.Test.YtfpclhkieccojaaQoibjdabgmp
import Derived.Test.YtfpclhkieccojaaQeafcmfchom
import Derived.Test.YtfpclhkieccojaaQhndhnmlajo
import Derived.Test.YtfpclhkieccojaaQgfhnlelnpa
import Derived.Test.YtfpclhkieccojaaQlglohacllf
import Derived.Test.YtfpclhkieccojaaQcjdphadijg
import Derived.Test.YtfpclhkieccojaaQhekkifcfbn
import Derived.Test.YtfpclhkieccojaaQpigbnnnnkh
import Derived.Test.YtfpclhkieccojaaQiomghofhfh
import Derived.Test.YtfpclhkieccojaaQchjnooobfh
import Derived.Test.YtfpclhkieccojaaQjdhaoogbfm
import Derived.Test.YtfpclhkieccojaaQonpiobmeeh
import Derived.Test.YtfpclhkieccojaaQifgcdekcbl
import Derived.Test.YtfpclhkieccojaaQmhhokllhlg
import Derived.Test.YtfpclhkieccojaaQekogcgapap
namespace Go.Proofs.Ytfpclhkieccojaa.Pure
set_option linter.unusedVariables false
set_option linter.unusedSimpArgs false
open Go.RowKit Go.Proofs.Ytfpclhkieccojaa.P Go.Proofs.YtfpclhkieccojaaW.PrintWords Go.Proofs.YtfpclhkieccojaaW.PrintLast Go.Proofs.Ytfpclhkieccojaa.Civ
theorem count_eq (a : Int) : computusref01_Count.f a 1000 = some (a % 1000) := by
  unfold computusref01_Count.f
  rw [if_neg (by decide), if_neg (by decide)]
  have c := cut_floor a (b := 1000) (by decide)
  have b := Int.emod_nonneg a (b := 1000) (by decide)
  have b2 := Int.emod_lt_of_pos a (b := 1000) (by decide)
  by_cases g : Int.tmod a 1000 < 0
  · rw [if_pos g, (c.1 g).2.1, w64 (by omega) (by omega)]
    congr 1; omega
  · rw [if_neg g, (c.2 g).2]
theorem mk_ok {m d u : Int} (h : (mkS m d u).2.2.2.2 = 0) : SOk 0 m d u := by
  by_cases g : SOk 0 m d u
  · exact g
  · unfold mkS at h
    rw [if_neg g] at h
    exact absurd h (by decide)
theorem mul_succ (x t : Int) : x * t + x = x * (t + 1) := by rw [Int.mul_add, Int.mul_one]
theorem SpanTwice : computuslaw16_SpanTwice.Pure := by
  intro i m d u c hi _ _ hu _
  have hi := i64_of_wf hi
  have hu := i64_of_wf hu
  refine Ev.rounds ?_
  unfold computuslaw16_SpanTwice.f
  refine Ev.bind0 (count_eq c) ?_
  have b : 0 ≤ c % 1000 ∧ c % 1000 < 1000 := by omega
  generalize c % 1000 = t at *
  rw [w64 (x := t + 1) (by omega) (by omega)]
  refine Ev.bind (mulS_ev i m d u t hu (by unfold I64; omega)) ?_
  refine Ev.bind (mulS_ev i m d u (t + 1) hu (by unfold I64; omega)) ?_
  have skip : ∀ (x y z w p q r s : Int), Ev (fun k => computuslaw16_SpanTwice.j0 k true i m d u x y z w p q r s) true := by
    intro x y z w p q r s
    refine Ev.succ ?_
    simp only [computuslaw16_SpanTwice.j0, if_true]
    exact known_end
  by_cases g1 : (mulS i m d u t).2.2.2.2 = 0
  · refine Ev.pos g1 ?_
    by_cases g2 : (mulS i m d u (t + 1)).2.2.2.2 = 0
    · refine Ev.pos g2 ?_
      by_cases g : i = 0
      · subst g
        have h : SOk 0 m d u := by
          by_cases h : SOk 0 m d u
          · exact h
          · unfold mulS at g1
            rw [if_neg h] at g1
            exact absurd g1 (by decide)
        have e1 : mulS 0 m d u t = mkS (m * t) (d * t) (u * t) := by
          unfold mulS
          rw [if_pos h, if_pos rfl]
        have e2 : mulS 0 m d u (t + 1) = mkS (m * (t + 1)) (d * (t + 1)) (u * (t + 1)) := by
          unfold mulS
          rw [if_pos h, if_pos rfl]
        rw [e1] at g1
        rw [e2] at g2
        have k1 := mk_ok g1
        have k2 := mk_ok g2
        have e3 : mkS (m * t) (d * t) (u * t) = sp 0 (m * t) (d * t) (u * t) := if_pos k1
        have e4 : mkS (m * (t + 1)) (d * (t + 1)) (u * (t + 1)) = sp 0 (m * (t + 1)) (d * (t + 1)) (u * (t + 1)) := if_pos k2
        rw [e1, e2, e3, e4]
        have e0 : ((0 : Int) != 0) = false := rfl
        refine Ev.succ ?_
        simp only [computuslaw16_SpanTwice.j0, e0, Bool.false_eq_true, if_false]
        refine Ev.bind (addS_ev 0 (m * t) (d * t) (u * t) 0 m d u (by unfold I64; omega) (by unfold I64; omega) (sok_i64 k1).2.2.2 hu) ?_
        have ea : addS 0 (m * t) (d * t) (u * t) 0 m d u = sp 0 (m * (t + 1)) (d * (t + 1)) (u * (t + 1)) := by
          unfold addS
          rw [if_pos ⟨k1, h⟩, if_neg (by omega), if_pos rfl, if_pos rfl, mul_succ, mul_succ, mul_succ]
          exact e4
        rw [ea]
        refine Ev.pos (by simp [sp]) ?_
        exact Ev.pos rfl known_end
      · have e0 : (i != 0) = true := bne_iff_ne.2 g
        rw [e0]
        exact skip _ _ _ _ _ _ _ _
    · exact Ev.neg g2 (skip _ _ _ _ _ _ _ _)
  · exact Ev.neg g1 (skip _ _ _ _ _ _ _ _)
end Go.Proofs.Ytfpclhkieccojaa.Pure
