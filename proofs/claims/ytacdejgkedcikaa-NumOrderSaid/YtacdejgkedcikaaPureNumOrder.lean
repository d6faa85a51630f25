/- NumOrder: the sum of some numbers is the same the other way round; for every list of 64-bit numbers. -/
import Derived.Test.YtacdejgkedcikaaBase
import Derived.Test.YtacdejgkedcikaaNumWide
import Derived.Test.YtacdejgkedcikaaNumFns
import Derived.Test.YtacdejgkedcikaaNumSum
import Derived.Test.YtacdejgkedcikaaNumKnown
import Derived.Test.YtacdejgkedcikaaPx0
import Derived.Test.YtacdejgkedcikaaPx20
namespace Go.Proofs.Ytacdejgkedcikaa.Pure
set_option linter.unusedVariables false
set_option linter.unusedSimpArgs false
open Go.RowKit Go.Proofs.Ytacdejgkedcikaa.P Go.Proofs.YtacdejgkedcikaaW.PrintWords Go.Proofs.YtacdejgkedcikaaW.PrintLast Go.Proofs.Ytacdejgkedcikaa.Civ
theorem order_loop (l : List Int) (hb : l.length * 8 ≤ 140737488351232) (hw : ∀ x ∈ l, I64 x) (n : Nat) : n ≤ l.length →
    Ev (fun k => computuslaw01_NumOrder.l0 k l (l.drop n).reverse ((n : Int) - 1)) true := by
  induction n with
  | zero =>
    intro _
    have hr : ∀ x ∈ (l.drop 0).reverse, I64 x := fun x hx => hw x (by simpa using hx)
    refine Ev.succ ?_
    simp only [computuslaw01_NumOrder.l0]
    refine Ev.neg (by omega) ?_
    refine Ev.bind (sum_ev l hw) (Ev.bind (sum_ev _ hr) ?_)
    rw [sumTo_all, sumTo_all, List.drop_zero, sum_rev, List.length_reverse]
    simp only [if_true]
    exact known_end
  | succ n ih =>
    intro hn
    have h := ih (by omega)
    refine Ev.succ ?_
    simp only [computuslaw01_NumOrder.l0]
    refine Ev.pos (by omega) (Ev.pos (by omega) (Ev.pos (by omega) (Ev.pos (by rw [List.length_reverse, List.length_drop]; omega) ?_)))
    have e : (l.drop (n + 1)).reverse ++ [rd l (((n + 1 : Nat) : Int) - 1)] = (l.drop n).reverse := by
      have er : rd l (((n + 1 : Nat) : Int) - 1) = l[n] := by
        rw [show (((n + 1 : Nat) : Int) - 1) = (n : Int) by omega]
        unfold rd
        rw [Int.toNat_natCast, List.getD_eq_getElem?_getD, List.getElem?_eq_getElem (by omega)]; rfl
      rw [er, List.drop_eq_getElem_cons (i := n) (by omega), List.reverse_cons]
    rw [e, show (((n + 1 : Nat) : Int) - 1 - 1) = (n : Int) - 1 by omega, w64 (by omega) (by omega)]
    exact h
theorem NumOrder : computuslaw01_NumOrder.Pure := by
  intro l _ hb hw
  refine Ev.rounds ?_
  unfold computuslaw01_NumOrder.f
  have h := order_loop l hb (fun x hx => i64_of_wf (hw x hx)) l.length (by omega)
  rw [w64 (by omega) (by omega)]
  rwa [List.drop_length, List.reverse_nil] at h
end Go.Proofs.Ytacdejgkedcikaa.Pure
