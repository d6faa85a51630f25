/- An interval as often as said. -/
import Derived.Test.YtfpclhkieccojaaQjibfjjnoko
import Derived.Test.YtfpclhkieccojaaQfemcomiepb
import Derived.Test.YtfpclhkieccojaaQoibjdabgmp
import Derived.Test.YtfpclhkieccojaaQeafcmfchom
import Derived.Test.YtfpclhkieccojaaQhndhnmlajo
import Derived.Test.YtfpclhkieccojaaQgfhnlelnpa
import Derived.Test.YtfpclhkieccojaaQlglohacllf
import Derived.Test.YtfpclhkieccojaaQcjdphadijg
import Derived.Test.YtfpclhkieccojaaQhekkifcfbn
import Derived.Test.YtfpclhkieccojaaQpigbnnnnkh
import Derived.Test.YtfpclhkieccojaaQiomghofhfh
import Derived.Test.YtfpclhkieccojaaQchjnooobfh
import Derived.Test.YtfpclhkieccojaaQjdhaoogbfm
import Derived.Test.YtfpclhkieccojaaQmjpedfhhbc
namespace Go.Proofs.Ytfpclhkieccojaa.Civ
set_option linter.unusedVariables false
set_option linter.unusedSimpArgs false
open Go.RowKit Go.Proofs.YtfpclhkieccojaaW.PrintWords Go.Proofs.YtfpclhkieccojaaW.PrintLast Go.Proofs.YtfpclhkieccojaaW.PrintMore Go.Proofs.Ytfpclhkieccojaa.P
def mulS (i m d u c : Int) : Int × Int × Int × Int × Int :=
  if SOk i m d u then (if i = 0 then mkS (m * c) (d * c) (u * c) else if c = 0 then bad 10 else sp (if c < 0 then -i else i) 0 0 0) else bad 1
theorem sok_all {i m d u : Int} (h : SOk i m d u) : I64 m ∧ I64 d ∧ I64 u := (sok_i64 h).2
theorem mk_bad {m d u : Int} (h : ¬ (I64 m ∧ I64 d ∧ I64 u)) : mkS m d u = bad 10 := if_neg fun f => h (sok_all f)
theorem out_no2 {z : Int} (h : ¬ I64 z) : (out z).2 = 10 := by rw [out_no h]
theorem out_in2 {z : Int} (h : I64 z) : (out z).2 = 0 := by rw [out_in h]
theorem out_in1 {z : Int} (h : I64 z) : (out z).1 = z := by rw [out_in h]
theorem out_02 (z : Int) : (out z).2 = 0 ∨ (out z).2 = 10 := by unfold out; split <;> simp
theorem mx_zero {x y z : Int} (hx : x = 0 ∨ x = 10) (hy : y = 0 ∨ y = 10) (hz : z = 0 ∨ z = 10) : mx (mx x y) z = 0 ↔ (x = 0 ∧ y = 0 ∧ z = 0) := by
  rcases hx with rfl | rfl <;> rcases hy with rfl | rfl <;> rcases hz with rfl | rfl <;> decide
theorem mul_parts (k : Nat) {i m d u c : Int} (a b e f : Int) (h : SOk i m d u) (hc : I64 c) : span_parts_num_Mul.f (k + 1) i m d u 0 c c c = some (mkS (m * c) (d * c) (u * c)) := by
  obtain ⟨a1, a2, a3⟩ := sok_all h
  unfold span_parts_num_Mul.f
  rw [mul_eq k m c a1 hc, mul_eq k d c a2 hc, mul_eq k u c a3 hc]
  simp only [Option.bind_some]
  by_cases g : (out (m * c)).2 = 0 ∧ (out (d * c)).2 = 0 ∧ (out (u * c)).2 = 0
  · rw [if_pos ((mx_zero (out_02 _) (out_02 _) (out_02 _)).2 g)]
    have g1 : I64 (m * c) := by
      by_cases z : I64 (m * c)
      · exact z
      · have := out_no2 z; omega
    have g2 : I64 (d * c) := by
      by_cases z : I64 (d * c)
      · exact z
      · have := out_no2 z; omega
    have g3 : I64 (u * c) := by
      by_cases z : I64 (u * c)
      · exact z
      · have := out_no2 z; omega
    rw [out_in1 g1, out_in1 g2, out_in1 g3, make_eq _ _ _ g3]
    rfl
  · rw [if_neg (fun f => g ((mx_zero (out_02 _) (out_02 _) (out_02 _)).1 f)), mk_bad]
    · rfl
    · exact fun f => g ⟨out_in2 f.1, out_in2 f.2.1, out_in2 f.2.2⟩
theorem mulS_ev (i m d u c : Int) (hu : I64 u) (hc : I64 c) : Ev (fun k => span_Mul.f k i m d u c) (mulS i m d u c) := by
  unfold span_Mul.f mulS
  refine Ev.bind0 (right_eq i m d u hu) ?_
  by_cases h1 : SOk i m d u
  · rw [decide_eq_true h1, if_pos h1]
    refine Ev.pos rfl ?_
    by_cases h2 : i = 0
    · refine Ev.pos h2 ?_
      rw [if_pos h2]
      refine Ev.succ ?_
      simp only [span_Mul.j0, Bool.false_eq_true, if_false]
      refine Ev.pos h2 ?_
      exact Ev.bind (Ev.at1 fun k => mul_parts k 0 0 0 0 h1 hc) (Ev.now _)
    · refine Ev.neg h2 ?_
      rw [if_neg h2]
      refine Ev.succ ?_
      have hi : i = -1 ∨ i = 1 := by unfold SOk at h1; omega
      by_cases h3 : c = 0
      · rw [if_pos h3, h3]
        simp only [span_Mul.j0, beq_self_eq_true, if_true]
        exact Ev.now _
      · rw [if_neg h3]
        have e : (c == 0) = false := beq_eq_false_iff_ne.2 h3
        simp only [span_Mul.j0, e, Bool.false_eq_true, if_false]
        refine Ev.neg h2 ?_
        refine Ev.bind0 (cmp64_eq c 0) ?_
        refine Ev.cast (Ev.now _) ?_
        unfold sp
        congr 1
        by_cases h4 : c < 0
        · rw [sgn_lt h4, if_pos h4]
          rcases hi with rfl | rfl <;> exact (w64 (by omega) (by omega)).trans (by decide)
        · rw [sgn_gt (by omega), if_neg h4]
          rcases hi with rfl | rfl <;> exact (w64 (by omega) (by omega)).trans (by decide)
  · rw [decide_eq_false h1, if_neg h1]
    exact Ev.neg (by simp) (Ev.now _)
end Go.Proofs.Ytfpclhkieccojaa.Civ
