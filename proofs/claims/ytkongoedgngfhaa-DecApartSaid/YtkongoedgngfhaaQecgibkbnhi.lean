/- What the functions of package dec answer: powers of ten, numbers at a greater scale, sums and differences. -/
import Derived.Test.YtkongoedgngfhaaQfibieogecn
import Derived.Test.YtkongoedgngfhaaQokjljniclp
import Derived.Test.YtkongoedgngfhaaQccmdcjlmmm
import Derived.Test.YtkongoedgngfhaaQgkkgmomhkk
import Derived.Test.YtkongoedgngfhaaQfmlihajpjn
import Derived.Test.YtkongoedgngfhaaQgfnbicjdjn
import Derived.Test.YtkongoedgngfhaaQjkjchikbhi
import Derived.Test.YtkongoedgngfhaaQiecgmeococ
import Derived.Test.YtkongoedgngfhaaQflojmhegfb
import Derived.Test.YtkongoedgngfhaaQcdjnlmedmo
import Derived.Test.YtkongoedgngfhaaQgfkoghcbaj
namespace Go.Proofs.Ytkongoedgngfhaa.Civ
set_option linter.unusedVariables false
set_option linter.unusedSimpArgs false
open Go.RowKit Go.Proofs.YtkongoedgngfhaaW.PrintWords Go.Proofs.YtkongoedgngfhaaW.PrintLast Go.Proofs.YtkongoedgngfhaaW.PrintMore Go.Proofs.Ytkongoedgngfhaa.P
def p10 (k : Int) : Int := if k = 0 then 1 else if k = 1 then 10 else if k = 2 then 100 else if k = 3 then 1000 else if k = 4 then 10000 else if k = 5 then 100000 else if k = 6 then 1000000 else if k = 7 then 10000000 else if k = 8 then 100000000 else 1000000000
theorem ten_cases {k : Int} (h : 0 ≤ k ∧ k ≤ 9) : k = 0 ∨ k = 1 ∨ k = 2 ∨ k = 3 ∨ k = 4 ∨ k = 5 ∨ k = 6 ∨ k = 7 ∨ k = 8 ∨ k = 9 := by omega
theorem p10_bd (k : Int) : 1 ≤ p10 k ∧ p10 k ≤ 1000000000 := by
  unfold p10
  repeat' split
  all_goals omega
theorem ten_eq {k : Int} (h : 0 ≤ k ∧ k ≤ 9) : dec_ten.f k = some (p10 k) := by
  rcases ten_cases h with rfl | rfl | rfl | rfl | rfl | rfl | rfl | rfl | rfl | rfl <;> rfl
def DOk (s : Int) : Prop := 0 ≤ s ∧ s ≤ 9
instance (s : Int) : Decidable (DOk s) := inferInstanceAs (Decidable (_ ∧ _))
theorem dcright_eq (n s : Int) : dec_Right.f n s = some (decide (DOk s)) := by
  unfold dec_Right.f
  by_cases h : s ≥ 0
  · rw [if_pos h]; congr 1; apply decide_eq_decide.2; unfold DOk; omega
  · rw [if_neg h, decide_eq_false (by unfold DOk; omega)]
theorem rdcright_eq (n s : Int) : computusref04_Right.f n s = some (decide (DOk s)) := by
  unfold computusref04_Right.f
  by_cases h : s ≥ 0
  · rw [if_pos h]; congr 1; apply decide_eq_decide.2; unfold DOk; omega
  · rw [if_neg h, decide_eq_false (by unfold DOk; omega)]
theorem i64_p10 (k : Int) : I64 (p10 k) := by have := p10_bd k; unfold I64; omega
/-- A number at a scale that is so much greater. -/
def tox (n s t : Int) : Int × Int × Int := if I64 (n * p10 (t - s)) then (n * p10 (t - s), t, 0) else (0, 0, 10)
theorem to_eq (k : Nat) {n s t : Int} (hn : I64 n) (hs : DOk s) (ht : DOk t) (h : s ≤ t) : dec_Dec_to.f (k + 1) n s t = some (tox n s t) := by
  unfold dec_Dec_to.f tox
  unfold DOk at hs ht
  rw [w64 (x := t - s) (by omega) (by omega), ten_eq (by omega)]
  simp only [Option.bind_some]
  rw [mul_eq k n _ hn (i64_p10 _)]
  simp only [Option.bind_some]
  by_cases g : I64 (n * p10 (t - s))
  · rw [out_in g, if_pos rfl, if_pos g]
  · rw [out_no g, if_neg (by decide), if_neg g]
theorem mx_le {a b : Int} : a ≤ mx a b ∧ b ≤ mx a b ∧ (mx a b = a ∨ mx a b = b) := by unfold mx; split <;> omega
def bothD (n s m r : Int) : Int × Int × Int × Int × Int :=
  if DOk s ∧ DOk r then ((tox n s (mx s r)).1, (tox n s (mx s r)).2.1, (tox m r (mx s r)).1, (tox m r (mx s r)).2.1, mx (tox n s (mx s r)).2.2 (tox m r (mx s r)).2.2) else (0, 0, 0, 0, 1)
theorem bothD_ev {n s m r : Int} (hn : I64 n) (hm : I64 m) : Ev (fun k => dec_both.f k n s m r) (bothD n s m r) := by
  unfold dec_both.f bothD
  refine Ev.bind0 (dcright_eq n s) ?_
  by_cases h1 : DOk s
  · refine Ev.pos (decide_eq_true h1) (Ev.bind0 (dcright_eq m r) (Ev.succ ?_))
    by_cases h2 : DOk r
    · have h12 : DOk s ∧ DOk r := ⟨h1, h2⟩
      have hx := mx_le (a := s) (b := r)
      have ht : DOk (mx s r) := by unfold DOk at *; omega
      rw [if_pos h12, decide_eq_true h2]
      simp only [dec_both.j0, Bool.not_true, Bool.false_eq_true, if_false]
      refine Ev.bind (Ev.at1 fun k => to_eq k hn h1 ht hx.1) ?_
      refine Ev.bind (Ev.at1 fun k => to_eq k hm h2 ht hx.2.1) ?_
      exact Ev.now _
    · have h12 : ¬ (DOk s ∧ DOk r) := fun f => h2 f.2
      rw [if_neg h12, decide_eq_false h2]
      simp only [dec_both.j0, Bool.not_false, if_true]
      exact Ev.now _
  · have h12 : ¬ (DOk s ∧ DOk r) := fun f => h1 f.1
    rw [if_neg h12]
    refine Ev.neg (by rw [decide_eq_false h1]; simp) (Ev.succ ?_)
    simp only [dec_both.j0, if_true]
    exact Ev.now _
/-- A number that came of two at one scale, if both could be there and it can be. -/
def sumD (n s m r z : Int) : Int × Int × Int :=
  if DOk s ∧ DOk r then (if I64 (n * p10 (mx s r - s)) ∧ I64 (m * p10 (mx s r - r)) ∧ I64 z then (z, mx s r, 0) else (0, 0, 10)) else (0, 0, 1)
theorem made_eqD (a b c : Int) : dec_made.f a b c = some (if c = 0 then (a, b, 0) else (0, 0, c)) := by
  unfold dec_made.f
  split <;> rfl
theorem bothD_ok {n s m r : Int} (h : DOk s ∧ DOk r) (a : I64 (n * p10 (mx s r - s))) (b : I64 (m * p10 (mx s r - r))) :
    bothD n s m r = (n * p10 (mx s r - s), mx s r, m * p10 (mx s r - r), mx s r, 0) := by
  unfold bothD tox
  rw [if_pos h, if_pos a, if_pos b]
  rfl
theorem bothD_err {n s m r : Int} (h : DOk s ∧ DOk r) (f : ¬ (I64 (n * p10 (mx s r - s)) ∧ I64 (m * p10 (mx s r - r)))) : (bothD n s m r).2.2.2.2 = 10 := by
  unfold bothD tox
  rw [if_pos h]
  by_cases a : I64 (n * p10 (mx s r - s))
  · have b : ¬ I64 (m * p10 (mx s r - r)) := fun b => f ⟨a, b⟩
    rw [if_pos a, if_neg b]; rfl
  · rw [if_neg a]
    by_cases b : I64 (m * p10 (mx s r - r))
    · rw [if_pos b]; rfl
    · rw [if_neg b]; rfl
theorem addD_ev {n s m r : Int} (hn : I64 n) (hm : I64 m) : Ev (fun k => dec_Add.f k n s m r) (sumD n s m r (n * p10 (mx s r - s) + m * p10 (mx s r - r))) := by
  unfold dec_Add.f
  refine Ev.bind (bothD_ev hn hm) ?_
  by_cases h : DOk s ∧ DOk r
  · by_cases f : I64 (n * p10 (mx s r - s)) ∧ I64 (m * p10 (mx s r - r))
    · rw [bothD_ok h f.1 f.2]
      refine Ev.pos rfl (Ev.bind0 (add_eq _ _ f.1 f.2) (Ev.bind0 (made_eqD _ _ _) (Ev.cast (Ev.now _) ?_)))
      unfold sumD
      rw [if_pos h]
      by_cases g : I64 (n * p10 (mx s r - s) + m * p10 (mx s r - r))
      · have fg := And.intro f.1 (And.intro f.2 g)
        rw [if_pos fg, out_in g]; rfl
      · have fg : ¬ (I64 (n * p10 (mx s r - s)) ∧ I64 (m * p10 (mx s r - r)) ∧ I64 (n * p10 (mx s r - s) + m * p10 (mx s r - r))) := fun q => g q.2.2
        rw [if_neg fg, out_no g]; rfl
    · have e := bothD_err h f
      refine Ev.neg (by rw [e]; decide) (Ev.cast (Ev.now _) ?_)
      have fg : ¬ (I64 (n * p10 (mx s r - s)) ∧ I64 (m * p10 (mx s r - r)) ∧ I64 (n * p10 (mx s r - s) + m * p10 (mx s r - r))) := fun q => f ⟨q.1, q.2.1⟩
      unfold sumD
      rw [e, if_pos h, if_neg fg]
  · have e : bothD n s m r = (0, 0, 0, 0, 1) := if_neg h
    rw [e]
    refine Ev.neg (by decide) (Ev.cast (Ev.now _) ?_)
    unfold sumD
    rw [if_neg h]
theorem subD_ev {n s m r : Int} (hn : I64 n) (hm : I64 m) : Ev (fun k => dec_Sub.f k n s m r) (sumD n s m r (n * p10 (mx s r - s) - m * p10 (mx s r - r))) := by
  unfold dec_Sub.f
  refine Ev.bind (bothD_ev hn hm) ?_
  by_cases h : DOk s ∧ DOk r
  · by_cases f : I64 (n * p10 (mx s r - s)) ∧ I64 (m * p10 (mx s r - r))
    · rw [bothD_ok h f.1 f.2]
      refine Ev.pos rfl (Ev.bind0 (sub_eq _ _ f.1 f.2) (Ev.bind0 (made_eqD _ _ _) (Ev.cast (Ev.now _) ?_)))
      unfold sumD
      rw [if_pos h]
      by_cases g : I64 (n * p10 (mx s r - s) - m * p10 (mx s r - r))
      · have fg := And.intro f.1 (And.intro f.2 g)
        rw [if_pos fg, out_in g]; rfl
      · have fg : ¬ (I64 (n * p10 (mx s r - s)) ∧ I64 (m * p10 (mx s r - r)) ∧ I64 (n * p10 (mx s r - s) - m * p10 (mx s r - r))) := fun q => g q.2.2
        rw [if_neg fg, out_no g]; rfl
    · have e := bothD_err h f
      refine Ev.neg (by rw [e]; decide) (Ev.cast (Ev.now _) ?_)
      have fg : ¬ (I64 (n * p10 (mx s r - s)) ∧ I64 (m * p10 (mx s r - r)) ∧ I64 (n * p10 (mx s r - s) - m * p10 (mx s r - r))) := fun q => f ⟨q.1, q.2.1⟩
      unfold sumD
      rw [e, if_pos h, if_neg fg]
  · have e : bothD n s m r = (0, 0, 0, 0, 1) := if_neg h
    rw [e]
    refine Ev.neg (by decide) (Ev.cast (Ev.now _) ?_)
    unfold sumD
    rw [if_neg h]
end Go.Proofs.Ytkongoedgngfhaa.Civ
