/- NumBack: a number times another one, and how often that is there, is the number; how often and what is left give the number again; for every input of 64-bit numbers. -/
import Derived.Test.YtacdejgkedcikaaBase
import Derived.Test.YtacdejgkedcikaaNumWide
import Derived.Test.YtacdejgkedcikaaNumFns
import Derived.Test.YtacdejgkedcikaaNumDiv64
import Derived.Test.YtacdejgkedcikaaNumOver
import Derived.Test.YtacdejgkedcikaaNumRef
import Derived.Test.YtacdejgkedcikaaNumRefFns
import Derived.Test.YtacdejgkedcikaaNumKnown
import Derived.Test.YtacdejgkedcikaaPx0
import Derived.Test.YtacdejgkedcikaaPx17
namespace Go.Proofs.Ytacdejgkedcikaa.Pure
set_option linter.unusedVariables false
set_option linter.unusedSimpArgs false
open Go.RowKit Go.Proofs.Ytacdejgkedcikaa.P Go.Proofs.YtacdejgkedcikaaW.PrintWords Go.Proofs.YtacdejgkedcikaaW.PrintLast Go.Proofs.Ytacdejgkedcikaa.Civ
theorem fl_mul (a b : Int) (h : b ≠ 0) : fl (a * b) b = a :=
  (fl_unique (r := 0) (by rw [Int.mul_comm a]; omega) (by omega)).1
theorem NumBack : computuslaw01_NumBack.Pure := by
  intro a b ha hb
  have ha := i64_of_wf ha
  have hb := i64_of_wf hb
  refine Ev.rounds ?_
  unfold computuslaw01_NumBack.f
  by_cases h : b = 0
  · subst h
    refine Ev.pos rfl ?_
    refine Ev.bind (Ev.at0 fun k => scale_zero k a 0) ?_
    simp only [if_true]
    exact known_end
  · refine Ev.neg h ?_
    refine Ev.bind (scale_ev a b b ha hb hb h) (Ev.bind (Ev.at1 fun k => div_eq k a b ha hb h) (Ev.bind0 (mod_eq a b ha hb h) ?_))
    rw [fl_mul a b h, out_in ha]
    refine Ev.pos rfl (Ev.pos rfl ?_)
    refine Ev.succ ?_
    simp only [computuslaw01_NumBack.j0]
    refine Ev.neg (by simp) ?_
    have hfm := fl_md a b
    rcases fl_bd ha h with hf | ⟨h1, h2⟩
    · rw [out_in hf]
      refine Ev.pos rfl ?_
      refine Ev.bind (Ev.at1 fun k => mul_eq k _ _ hf hb) ?_
      by_cases g : I64 (fl a b * b)
      · rw [out_in g]
        refine Ev.pos rfl ?_
        refine Ev.bind0 (add_eq _ _ g (md_bd h hb)) ?_
        rw [show fl a b * b + md a b = a by rw [Int.mul_comm]; omega, out_in ha]
        simp only [if_true]
        exact known_end
      · rw [out_no g]
        refine Ev.neg (by simp) ?_
        exact known_end
    · subst h1; subst h2
      rw [out_no (z := fl (-9223372036854775808) (-1)) (by decide)]
      refine Ev.neg (by simp) (Ev.pos rfl ?_)
      exact known_end
end Go.Proofs.Ytacdejgkedcikaa.Pure
