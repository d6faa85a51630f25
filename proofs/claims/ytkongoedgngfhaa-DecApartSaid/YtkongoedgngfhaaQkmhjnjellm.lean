/- DecApart: the one less the other is the other way round but for its sign; with nothing added a number is the same. -/
import Derived.Test.YtkongoedgngfhaaQfibieogecn
import Derived.Test.YtkongoedgngfhaaQokjljniclp
import Derived.Test.YtkongoedgngfhaaQccmdcjlmmm
import Derived.Test.YtkongoedgngfhaaQecgibkbnhi
import Derived.Test.YtkongoedgngfhaaQejaipplmeb
import Derived.Test.YtkongoedgngfhaaQgkkgmomhkk
import Derived.Test.YtkongoedgngfhaaQgfnbicjdjn
import Derived.Test.YtkongoedgngfhaaQabgallnagp
import Derived.Test.YtkongoedgngfhaaQcdjnlmedmo
namespace Go.Proofs.Ytkongoedgngfhaa.Pure
set_option linter.unusedVariables false
set_option linter.unusedSimpArgs false
open Go.RowKit Go.Proofs.Ytkongoedgngfhaa.P Go.Proofs.YtkongoedgngfhaaW.PrintWords Go.Proofs.YtkongoedgngfhaaW.PrintLast Go.Proofs.Ytkongoedgngfhaa.Civ
theorem mx_comm (a b : Int) : mx a b = mx b a := by unfold mx; split <;> split <;> omega
theorem apart_end {n s e : Int} (hn : I64 n) (he : ¬ DOk s → e = 1) : Ev (fun k => computuslaw04_DecApart.j0 k e false n s) true := by
  refine Ev.succ ?_
  simp only [computuslaw04_DecApart.j0, Bool.false_eq_true, if_false]
  refine Ev.bind0 (rdcright_eq n s) ?_
  by_cases h : DOk s
  · refine Ev.pos (decide_eq_true h) ?_
    have eg : computuslaw04_given.f n s = some (n, s) := rfl
    refine Ev.bind0 eg (Ev.bind (addD_ev (m := 0) (r := s) hn (by unfold I64; omega)) ?_)
    have hm : mx s s = s := by unfold mx; split <;> rfl
    have e0 : sumD n s 0 s (n * p10 (mx s s - s) + 0 * p10 (mx s s - s)) = (n, s, 0) := by
      unfold sumD
      rw [hm, Int.sub_self, show p10 0 = 1 from rfl, Int.mul_one, Int.mul_one, Int.add_zero]
      have hss : DOk s ∧ DOk s := ⟨h, h⟩
      have hi : I64 n ∧ I64 0 ∧ I64 n := ⟨hn, by unfold I64; omega, hn⟩
      rw [if_pos hss, if_pos hi]
    rw [e0]
    have et : computuslaw04_taken.f n s = some (n, s) := rfl
    refine Ev.bind0 et ?_
    refine Ev.pos (by simp) (Ev.pos rfl known_end)
  · refine Ev.neg (by rw [decide_eq_false h]; simp) ?_
    exact Ev.pos (he h) known_end
theorem sum_cases (n s m r z : Int) : sumD n s m r z = (z, mx s r, 0) ∧ DOk s ∧ I64 z ∨ sumD n s m r z = (0, 0, 10) ∧ DOk s ∨ sumD n s m r z = (0, 0, 1) := by
  unfold sumD
  by_cases h : DOk s ∧ DOk r
  · rw [if_pos h]
    by_cases g : I64 (n * p10 (mx s r - s)) ∧ I64 (m * p10 (mx s r - r)) ∧ I64 z
    · rw [if_pos g]; exact .inl ⟨rfl, h.1, g.2.2⟩
    · rw [if_neg g]; exact .inr (.inl ⟨rfl, h.1⟩)
  · rw [if_neg h]; exact .inr (.inr rfl)
theorem DecApart : computuslaw04_DecApart.Pure := by
  intro n s m r hn _ hm _
  have hn := i64_of_wf hn
  have hm := i64_of_wf hm
  refine Ev.rounds ?_
  unfold computuslaw04_DecApart.f
  have eg : ∀ a b, computuslaw04_given.f a b = some (a, b) := fun _ _ => rfl
  refine Ev.bind0 (eg n s) (Ev.bind0 (eg m r) (Ev.bind (subD_ev hn hm) (Ev.bind0 (eg m r) (Ev.bind0 (eg n s) (Ev.bind (subD_ev hm hn) ?_)))))
  rcases sum_cases n s m r (n * p10 (mx s r - s) - m * p10 (mx s r - r)) with ⟨e, hs, hi⟩ | ⟨e, hs⟩ | e
  · rw [e]
    refine Ev.pos rfl ?_
    rcases sum_cases m r n s (m * p10 (mx r s - r) - n * p10 (mx r s - s)) with ⟨e', _, _⟩ | ⟨e', _⟩ | e'
    · rw [e']
      refine Ev.pos rfl (Ev.pos (mx_comm s r) ?_)
      have ew : ((n * p10 (mx s r - s) - m * p10 (mx s r - r)) != wrap64 (-(m * p10 (mx r s - r) - n * p10 (mx r s - s)))) = false := by
        rw [mx_comm r s]
        have : -(m * p10 (mx s r - r) - n * p10 (mx s r - s)) = n * p10 (mx s r - s) - m * p10 (mx s r - r) := by omega
        rw [this, w64_of hi]
        exact bne_self_eq_false _
      rw [ew]
      exact apart_end hn (fun f => absurd hs f)
    · rw [e']
      exact Ev.neg (by decide) (apart_end hn (fun f => absurd hs f))
    · rw [e']
      exact Ev.neg (by decide) (apart_end hn (fun f => absurd hs f))
  · rw [e]
    exact Ev.neg (by decide) (apart_end hn (fun f => absurd hs f))
  · rw [e]
    exact Ev.neg (by decide) (apart_end hn (fun _ => rfl))
end Go.Proofs.Ytkongoedgngfhaa.Pure
