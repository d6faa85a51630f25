/- The sum of some numbers hangs on their sum alone. -/
import Derived.Test.YtacdejgkedcikaaBase
import Derived.Test.YtacdejgkedcikaaNumWide
import Derived.Test.YtacdejgkedcikaaNumFns
import Derived.Test.YtacdejgkedcikaaPx0
import Derived.Test.YtacdejgkedcikaaPx20
import Derived.Test.YtacdejgkedcikaaPx3
namespace Go.Proofs.Ytacdejgkedcikaa.Civ
set_option linter.unusedVariables false
set_option linter.unusedSimpArgs false
open Go.RowKit Go.Proofs.YtacdejgkedcikaaW.PrintWords Go.Proofs.YtacdejgkedcikaaW.PrintLast Go.Proofs.YtacdejgkedcikaaW.PrintMore Go.Proofs.Ytacdejgkedcikaa.P
def sumTo (l : List Int) : Nat → Int
  | 0 => 0
  | n + 1 => sumTo l n + rd l n
/-- What the two halves of a sum tell. -/
def half2 (S : Int) : Int × Int :=
  if S / 18446744073709551616 % 18446744073709551616 = (IntKind.u64.wrap ((wrap64 (S % 18446744073709551616)) / 9223372036854775808)) then (wrap64 (S % 18446744073709551616), 0) else (0, 10)
theorem add64_gen (x y c : Int) (hx : 0 ≤ x) (hy : 0 ≤ y) (hc : 0 ≤ c ∧ c ≤ 1) : bits_Add64.f x y c = some ((x + y + c) % 18446744073709551616, (x + y + c) / 18446744073709551616) := by
  unfold bits_Add64.f
  rw [if_pos hx, if_pos hy, if_pos hc.1, if_pos hc.2]
theorem sum_loop (l : List Int) (hl : l.length ≤ 4096) (hw : ∀ x ∈ l, I64 x) (d : Nat) : ∀ n : Nat, n ≤ l.length → l.length - n = d →
    Ev (fun k => num_Sum.l0 k l (l.length : Int) (n : Int) (sumTo l n / 18446744073709551616 % 18446744073709551616) (sumTo l n % 18446744073709551616)) (half2 (sumTo l l.length)) := by
  induction d with
  | zero =>
    intro n hn hd
    have e : n = l.length := by omega
    subst e
    refine Ev.at1 fun k => ?_
    simp only [num_Sum.l0]
    rw [if_neg (by omega)]
    unfold half2
    split <;> rfl
  | succ d ih =>
    intro n hn hd
    have hx : I64 (rd l n) := by
      refine hw _ ?_
      unfold rd
      rw [Int.toNat_natCast, List.getD_eq_getElem?_getD, List.getElem?_eq_getElem (by omega)]
      exact List.getElem_mem _
    unfold I64 at hx
    have h := ih (n + 1) (by omega) (by omega)
    have es : sumTo l (n + 1) = sumTo l n + rd l n := rfl
    rw [es] at h
    refine Ev.succ ?_
    simp only [num_Sum.l0]
    refine Ev.pos (by omega) (Ev.pos (by omega) (Ev.pos (by omega) ?_))
    generalize rd l n = x at *
    generalize sumTo l n = S at *
    have ex : IntKind.u64.wrap x = x % 18446744073709551616 := u64m x
    have ey : IntKind.u64.wrap (x / 9223372036854775808) = (x / 9223372036854775808) % 18446744073709551616 := u64m _
    rw [ex, ey]
    refine Ev.bind0 (add64_gen _ _ _ (by omega) (by omega) (by omega)) ?_
    refine Ev.bind0 (add64_gen _ _ _ (by omega) (by omega) (by omega)) ?_
    have e1 : (S % 18446744073709551616 + x % 18446744073709551616 + 0) % 18446744073709551616 = (S + x) % 18446744073709551616 := by omega
    have e2 : (S / 18446744073709551616 % 18446744073709551616 + x / 9223372036854775808 % 18446744073709551616 + (S % 18446744073709551616 + x % 18446744073709551616 + 0) / 18446744073709551616) % 18446744073709551616 = (S + x) / 18446744073709551616 % 18446744073709551616 := by omega
    simp only [e1, e2]
    rw [w64 (x := (n : Int) + 1) (by omega) (by omega)]
    exact h
theorem sum_ev (l : List Int) (hw : ∀ x ∈ l, I64 x) : Ev (fun k => num_Sum.f k l) (if l.length > 4096 then (0, 3) else half2 (sumTo l l.length)) := by
  unfold num_Sum.f
  by_cases h : l.length > 4096
  · rw [if_pos h]
    exact Ev.pos (by omega) (Ev.now _)
  · rw [if_neg h]
    refine Ev.neg (by omega) ?_
    exact sum_loop l (by omega) hw l.length 0 (by omega) (by omega)
theorem sumTo_sum (l : List Int) : ∀ n, n ≤ l.length → sumTo l n = (l.take n).sum := by
  intro n
  induction n with
  | zero => intro _; rfl
  | succ n ih =>
    intro h
    have e : rd l n = l[n] := by
      unfold rd
      rw [Int.toNat_natCast, List.getD_eq_getElem?_getD, List.getElem?_eq_getElem (by omega)]; rfl
    show sumTo l n + rd l n = _
    rw [ih (by omega), e, List.take_succ_eq_append_getElem (by omega), List.sum_append]
    simp
theorem sumTo_all (l : List Int) : sumTo l l.length = l.sum := by rw [sumTo_sum l _ (by omega), List.take_length]
theorem sum_rev (l : List Int) : l.reverse.sum = l.sum := by
  induction l with
  | nil => rfl
  | cons a l ih => rw [List.reverse_cons, List.sum_append, List.sum_cons, ih]; simp; omega
end Go.Proofs.Ytacdejgkedcikaa.Civ
