/- An interval as often as said. -/
import Derived.Test.YtfpclhkieccojaaQefgefhhcgk
import Derived.Test.YtfpclhkieccojaaQbifnoddcog
import Derived.Test.YtfpclhkieccojaaQnedkgdlepl
import Derived.Test.YtfpclhkieccojaaQcjfhoclfkb
import Derived.Test.YtfpclhkieccojaaQlbegliokfe
import Derived.Test.YtfpclhkieccojaaQnnggfgelmp
import Derived.Test.YtfpclhkieccojaaQkgifnokclg
import Derived.Test.YtfpclhkieccojaaQeafcmfchom
import Derived.Test.YtfpclhkieccojaaQchjnooobfh
import Derived.Test.YtfpclhkieccojaaQmpnnhdfopl
import Derived.Test.YtfpclhkieccojaaQeolblajafl
import Derived.Test.YtfpclhkieccojaaQmpigfecdpa
import Derived.Test.YtfpclhkieccojaaQoimnmpglbn
import Derived.Test.YtfpclhkieccojaaQfbfdmbekpk
import Derived.Test.YtfpclhkieccojaaQfibmdljcim
import Derived.Test.YtfpclhkieccojaaQcmkhfbhjnm
import Derived.Test.YtfpclhkieccojaaQjdhaoogbfm
import Derived.Test.YtfpclhkieccojaaQcmeemmflga
import Derived.Test.YtfpclhkieccojaaQolfffodemh
import Derived.Test.YtfpclhkieccojaaQfojajnonfa
import Derived.Test.YtfpclhkieccojaaQlpfdoeheom
namespace Go.Proofs.Ytfpclhkieccojaa.Civ
set_option linter.unusedVariables false
set_option linter.unusedSimpArgs false
open Go.RowKit Go.Proofs.YtfpclhkieccojaaW.PrintWords Go.Proofs.YtfpclhkieccojaaW.PrintLast Go.Proofs.YtfpclhkieccojaaW.PrintMore Go.Proofs.Ytfpclhkieccojaa.P
def mulS (i m d u c : Int) : Int × Int × Int × Int × Int :=
  if SOk i m d u then (if i = 0 then mkS (m * c) (d * c) (u * c) else if c = 0 then bad 10 else sp (if c < 0 then -i else i) 0 0 0) else bad 1
theorem sok_all {i m d u : Int} (h : SOk i m d u) : I64 m ∧ I64 d ∧ I64 u := (sok_i64 h).2
theorem mk_bad {m d u : Int} (h : ¬ (I64 m ∧ I64 d ∧ I64 u)) : mkS m d u = bad 10 := if_neg fun f => h (sok_all f)
theorem out_no2 {z : Int} (h : ¬ I64 z) : (out z).2 = 10 := by rw [out_no h]
theorem out_in2 {z : Int} (h : I64 z) : (out z).2 = 0 := by rw [out_in h]
theorem out_in1 {z : Int} (h : I64 z) : (out z).1 = z := by rw [out_in h]
theorem out_02 (z : Int) : (out z).2 = 0 ∨ (out z).2 = 10 := by unfold out; split <;> simp
theorem mx_zero {x y z : Int} (hx : x = 0 ∨ x = 10) (hy : y = 0 ∨ y = 10) (hz : z = 0 ∨ z = 10) : mx (mx x y) z = 0 ↔ (x = 0 ∧ y = 0 ∧ z = 0) := by
  rcases hx with rfl | rfl <;> rcases hy with rfl | rfl <;> rcases hz with rfl | rfl <;> decide
theorem outs_made (x y z : Int) : computusref16_made.f (out x).1 (out x).2 (out y).1 (out y).2 (out z).1 (out z).2 = some (mkS x y z) := by
  by_cases h1 : I64 x
  · by_cases h2 : I64 y
    · rw [out_in h1, out_in h2]
      exact made_out _ _ _
    · rw [mk_bad (fun f => h2 f.2.1), out_in h1, out_no h2]
      unfold computusref16_made.f
      rw [if_pos rfl, if_neg (by omega)]
      rfl
  · rw [mk_bad (fun f => h1 f.1), out_no h1]
    unfold computusref16_made.f
    rw [if_neg (by omega)]
    rfl
theorem mul_parts (k : Nat) {i m d u c : Int} (a b e f : Int) (h : SOk i m d u) (hc : I64 c) : span_parts_num_Mul.f (k + 1) i m d u 0 c c c = some (mkS (m * c) (d * c) (u * c)) := by
  obtain ⟨a1, a2, a3⟩ := sok_all h
  unfold span_parts_num_Mul.f
  rw [mul_eq k m c a1 hc, mul_eq k d c a2 hc, mul_eq k u c a3 hc]
  simp only [Option.bind_some]
  by_cases g : (out (m * c)).2 = 0 ∧ (out (d * c)).2 = 0 ∧ (out (u * c)).2 = 0
  · rw [if_pos ((mx_zero (out_02 _) (out_02 _) (out_02 _)).2 g)]
    have g1 : I64 (m * c) := by
      by_cases z : I64 (m * c)
      · exact z
      · have := out_no2 z; omega
    have g2 : I64 (d * c) := by
      by_cases z : I64 (d * c)
      · exact z
      · have := out_no2 z; omega
    have g3 : I64 (u * c) := by
      by_cases z : I64 (u * c)
      · exact z
      · have := out_no2 z; omega
    rw [out_in1 g1, out_in1 g2, out_in1 g3, make_eq _ _ _ g3]
    rfl
  · rw [if_neg (fun f => g ((mx_zero (out_02 _) (out_02 _) (out_02 _)).1 f)), mk_bad]
    · rfl
    · exact fun f => g ⟨out_in2 f.1, out_in2 f.2.1, out_in2 f.2.2⟩
theorem mulS_ev (i m d u c : Int) (hu : I64 u) (hc : I64 c) : Ev (fun k => span_Mul.f k i m d u c) (mulS i m d u c) := by
  unfold span_Mul.f mulS
  refine Ev.bind0 (right_eq i m d u hu) ?_
  by_cases h1 : SOk i m d u
  · rw [decide_eq_true h1, if_pos h1]
    refine Ev.pos rfl ?_
    by_cases h2 : i = 0
    · refine Ev.pos h2 ?_
      rw [if_pos h2]
      refine Ev.succ ?_
      simp only [span_Mul.j0, Bool.false_eq_true, if_false]
      refine Ev.pos h2 ?_
      exact Ev.bind (Ev.at1 fun k => mul_parts k 0 0 0 0 h1 hc) (Ev.now _)
    · refine Ev.neg h2 ?_
      rw [if_neg h2]
      refine Ev.succ ?_
      have hi : i = -1 ∨ i = 1 := by unfold SOk at h1; omega
      by_cases h3 : c = 0
      · rw [if_pos h3, h3]
        simp only [span_Mul.j0, beq_self_eq_true, if_true]
        exact Ev.now _
      · rw [if_neg h3]
        have e : (c == 0) = false := beq_eq_false_iff_ne.2 h3
        simp only [span_Mul.j0, e, Bool.false_eq_true, if_false]
        refine Ev.neg h2 ?_
        refine Ev.bind0 (cmp64_eq c 0) ?_
        refine Ev.cast (Ev.now _) ?_
        unfold sp
        congr 1
        by_cases h4 : c < 0
        · rw [sgn_lt h4, if_pos h4]
          rcases hi with rfl | rfl <;> exact (w64 (by omega) (by omega)).trans (by decide)
        · rw [sgn_gt (by omega), if_neg h4]
          rcases hi with rfl | rfl <;> exact (w64 (by omega) (by omega)).trans (by decide)
  · rw [decide_eq_false h1, if_neg h1]
    exact Ev.neg (by simp) (Ev.now _)
theorem rmulS_ev (i m d u c : Int) (hc : I64 c) : Ev (fun k => computusref16_Mul.f k i m d u c) (mulS i m d u c) := by
  unfold computusref16_Mul.f mulS
  refine Ev.bind0 (rright_eq i m d u) ?_
  by_cases h1 : SOk i m d u
  · rw [decide_eq_true h1, if_pos h1]
    refine Ev.pos rfl ?_
    obtain ⟨a1, a2, a3⟩ := sok_all h1
    by_cases h2 : i = 0
    · refine Ev.pos h2 ?_
      rw [if_pos h2]
      refine Ev.bind (rmul_ev m c a1 hc) ?_
      refine Ev.bind (rmul_ev d c a2 hc) ?_
      refine Ev.bind (rmul_ev u c a3 hc) ?_
      exact Ev.bind0 (outs_made _ _ _) (Ev.now _)
    · refine Ev.neg h2 ?_
      rw [if_neg h2]
      have hi : (i = -1 ∨ i = 1) ∧ m = 0 ∧ d = 0 ∧ u = 0 := by unfold SOk at h1; omega
      obtain ⟨hi, rfl, rfl, rfl⟩ := hi
      by_cases h3 : c = 0
      · refine Ev.pos h3 ?_
        rw [if_pos h3]
        exact Ev.now _
      · refine Ev.neg h3 ?_
        rw [if_neg h3]
        by_cases h4 : c < 0
        · refine Ev.pos h4 ?_
          rw [if_pos h4]
          refine Ev.cast (Ev.now _) ?_
          have e1 : wrap64 (- -1) = 1 := (w64 (by omega) (by omega)).trans (by decide)
          have e2 : wrap64 (-1) = -1 := w64 (by omega) (by omega)
          rcases hi with rfl | rfl
          · rw [e1]; rfl
          · rw [e2]; rfl
        · refine Ev.neg h4 ?_
          rw [if_neg h4]
          exact Ev.now _
  · rw [decide_eq_false h1, if_neg h1]
    exact Ev.neg (by simp) (Ev.now _)
end Go.Proofs.Ytfpclhkieccojaa.Civ
