/- DaySorted: stamps lie in the order of their dates, and in that of their times at one date. -/
import Derived.Test.YtgjbdojpncmmlaaQdkjbefpmfb
import Derived.Test.YtgjbdojpncmmlaaQgidmalbbah
import Derived.Test.YtgjbdojpncmmlaaQonhjbhmbep
import Derived.Test.YtgjbdojpncmmlaaQeccfklbhpc
import Derived.Test.YtgjbdojpncmmlaaQnlkipaphod
import Derived.Test.YtgjbdojpncmmlaaQnfpioekdkn
import Derived.Test.YtgjbdojpncmmlaaQdamkicidim
import Derived.Test.YtgjbdojpncmmlaaQigcnbiplja
import Derived.Test.YtgjbdojpncmmlaaQdbcmpkebch
import Derived.Test.YtgjbdojpncmmlaaQcmbbafnccn
import Derived.Test.YtgjbdojpncmmlaaQohehlebnik
import Derived.Test.YtgjbdojpncmmlaaQmdggkfanle
namespace Go.Proofs.Ytgjbdojpncmmlaa.Pure
set_option linter.unusedVariables false
set_option linter.unusedSimpArgs false
open Go.RowKit Go.Proofs.Ytgjbdojpncmmlaa.P Go.Proofs.YtgjbdojpncmmlaaW.PrintWords Go.Proofs.YtgjbdojpncmmlaaW.PrintLast Go.Proofs.Ytgjbdojpncmmlaa.Civ
theorem sgn_ge (x y : Int) : sgn x y = -1 ∨ sgn x y = 0 ∨ sgn x y = 1 := by
  rcases Int.lt_trichotomy x y with g | g | g
  · exact .inl (sgn_lt g)
  · exact .inr (.inl (sgn_eq g))
  · exact .inr (.inr (sgn_gt g))
theorem sorted_j1 {i u j v x y c : Int} (hu : I64 u) (hv : I64 v) (h : (if c = 0 then sgn x y else c) = cmpT i u j v) (hc : c = -1 ∨ c = 0 ∨ c = 1) :
    Ev (fun k => if c = 0 then computuslaw15_DaySorted.j1 k x y c (decide (x < y)) i u j v else computuslaw15_DaySorted.j1 k x y c false i u j v) true := by
  have e0 := cmpT_ev i u j v hu hv
  by_cases z : c = 0
  · subst z
    rw [if_pos rfl] at h
    refine Ev.pos rfl (Ev.succ ?_)
    rcases Int.lt_trichotomy x y with g | g | g
    · rw [sgn_lt g] at h
      rw [← h] at e0
      rw [decide_eq_true g]
      simp only [computuslaw15_DaySorted.j1, if_true]
      refine Ev.succ ?_
      simp only [computuslaw15_DaySorted.j2]
      refine Ev.neg (by decide) (Ev.succ ?_)
      simp only [computuslaw15_DaySorted.j3, Bool.false_eq_true, if_false]
      exact Ev.bind e0 (Ev.pos rfl known_end)
    · rw [sgn_eq g] at h
      rw [← h] at e0
      rw [decide_eq_false (by omega)]
      simp only [computuslaw15_DaySorted.j1, Bool.false_eq_true, if_false]
      refine Ev.succ ?_
      simp only [computuslaw15_DaySorted.j2]
      refine Ev.pos (by trivial) (Ev.succ ?_)
      rw [decide_eq_false (by omega)]
      simp only [computuslaw15_DaySorted.j3, Bool.false_eq_true, if_false]
      exact Ev.bind e0 (Ev.pos rfl known_end)
    · rw [sgn_gt g] at h
      rw [← h] at e0
      rw [decide_eq_false (by omega)]
      simp only [computuslaw15_DaySorted.j1, Bool.false_eq_true, if_false]
      refine Ev.succ ?_
      simp only [computuslaw15_DaySorted.j2]
      refine Ev.pos (by trivial) (Ev.succ ?_)
      rw [decide_eq_true (show x > y from g)]
      simp only [computuslaw15_DaySorted.j3, if_true]
      exact Ev.bind e0 (Ev.pos rfl known_end)
  · rw [if_neg z] at h
    rw [← h] at e0
    refine Ev.neg z (Ev.succ ?_)
    simp only [computuslaw15_DaySorted.j1, Bool.false_eq_true, if_false]
    refine Ev.succ ?_
    simp only [computuslaw15_DaySorted.j2]
    refine Ev.neg z (Ev.succ ?_)
    simp only [computuslaw15_DaySorted.j3, Bool.false_eq_true, if_false]
    exact Ev.bind e0 (Ev.pos rfl known_end)
theorem of_err {i u : Int} (h : (ofD i u).2.2.2 = 0) : DRS i u := by
  by_cases g : DRS i u
  · exact g
  · unfold ofD at h
    rw [if_neg g] at h
    exact absurd h (by decide)
theorem of_ok {i u : Int} (h : DRS i u) : ofD i u = (i, if i = 0 then u / 86400000000 else 0, if i = 0 then u % 86400000000 else 0, 0) := by
  unfold ofD
  rw [if_pos h]
  by_cases g : i = 0
  · rw [if_pos g, if_pos g, if_pos g, g]
  · rw [if_neg g, if_neg g, if_neg g]
theorem of_dr {i u : Int} (h : DRS i u) : DR i (if i = 0 then u / 86400000000 else 0) := by
  by_cases g : i = 0
  · subst g
    rw [if_pos rfl]
    exact .inl ⟨rfl, drs_fin.1 h⟩
  · rw [if_neg g]
    unfold DRS at h
    unfold DR
    omega
theorem lex_days {i u j v : Int} (h : DRS i u) (g : DRS j v) :
    (if cmpD i (if i = 0 then u / 86400000000 else 0) j (if j = 0 then v / 86400000000 else 0) = 0 then sgn (if i = 0 then u % 86400000000 else 0) (if j = 0 then v % 86400000000 else 0) else cmpD i (if i = 0 then u / 86400000000 else 0) j (if j = 0 then v / 86400000000 else 0)) = cmpT i u j v := by
  have ea : cmpD i (if i = 0 then u / 86400000000 else 0) j (if j = 0 then v / 86400000000 else 0) = lex i (if i = 0 then u / 86400000000 else 0) j (if j = 0 then v / 86400000000 else 0) := if_pos ⟨of_dr h, of_dr g⟩
  have eb : cmpT i u j v = lex i u j v := if_pos ⟨h, g⟩
  rw [ea, eb]
  have l1 : ∀ {a b : Int}, i < j → lex i a j b = -1 := by
    intro a b z
    unfold lex
    rw [sgn_lt z, if_neg (by decide)]
  have l2 : ∀ {a b : Int}, i = j → lex i a j b = sgn a b := by
    intro a b z
    unfold lex
    rw [sgn_eq z, if_pos rfl]
  have l3 : ∀ {a b : Int}, j < i → lex i a j b = 1 := by
    intro a b z
    unfold lex
    rw [sgn_gt z, if_neg (by decide)]
  rcases Int.lt_trichotomy i j with z | z | z
  · rw [l1 z, l1 z, if_neg (by decide)]
  · rw [l2 z, l2 z]
    subst z
    by_cases y : i = 0
    · simp only [if_pos y]
      rcases Int.lt_trichotomy (u / 86400000000) (v / 86400000000) with p | p | p
      · rw [sgn_lt p, if_neg (by decide), sgn_lt (by omega)]
      · rw [sgn_eq p, if_pos rfl]
        rcases Int.lt_trichotomy (u % 86400000000) (v % 86400000000) with q | q | q
        · rw [sgn_lt q, sgn_lt (by omega)]
        · rw [sgn_eq q, sgn_eq (by omega)]
        · rw [sgn_gt q, sgn_gt (by omega)]
      · rw [sgn_gt p, if_neg (by decide), sgn_gt (by omega)]
    · simp only [if_neg y]
      have a : u = 0 := by unfold DRS at h; omega
      have b : v = 0 := by unfold DRS at g; omega
      rw [a, b, sgn_eq rfl, if_pos rfl]
  · rw [l3 z, l3 z, if_neg (by decide)]
theorem cmpD_three (i n j m : Int) : cmpD i n j m = -1 ∨ cmpD i n j m = 0 ∨ cmpD i n j m = 1 := by
  unfold cmpD lex
  split
  · split
    · exact sgn_ge _ _
    · exact sgn_ge _ _
  · exact .inr (.inl rfl)
theorem DaySorted : computuslaw15_DaySorted.Pure := by
  intro i u j v _ hu _ hv
  have hu := i64_of_wf hu
  have hv := i64_of_wf hv
  refine Ev.rounds ?_
  unfold computuslaw15_DaySorted.f
  refine Ev.bind (ofD_ev i u hu) (Ev.bind (ofD_ev j v hv) ?_)
  have skip : ∀ (a b c d e f : Int), ¬ (DRS i u ∧ DRS j v) → Ev (fun k => computuslaw15_DaySorted.j0 k a b true i u j v c d e f) true := by
    intro a b c d e f h
    refine Ev.succ ?_
    simp only [computuslaw15_DaySorted.j0, if_true]
    have z : cmpT i u j v = 0 := if_neg h
    have e0 := cmpT_ev i u j v hu hv
    rw [z] at e0
    exact Ev.bind e0 (Ev.pos rfl known_end)
  by_cases h : DRS i u
  · by_cases g : DRS j v
    · rw [of_ok h, of_ok g]
      refine Ev.pos rfl (Ev.succ ?_)
      have e0 : ((0 : Int) != 0) = false := rfl
      simp only [computuslaw15_DaySorted.j0, e0, Bool.false_eq_true, if_false]
      refine Ev.bind (cmpD_ev _ _ _ _) ?_
      exact sorted_j1 hu hv (lex_days h g) (cmpD_three _ _ _ _)
    · have e1 : (ofD j v).2.2.2 != 0 := by
        rw [bne_iff_ne]
        exact fun f => g (of_err f)
      rw [e1, of_ok h]
      exact Ev.pos rfl (skip _ _ _ _ _ _ (fun f => g f.2))
  · exact Ev.neg (fun f => h (of_err f)) (skip _ _ _ _ _ _ (fun f => h f.1))
end Go.Proofs.Ytgjbdojpncmmlaa.Pure
